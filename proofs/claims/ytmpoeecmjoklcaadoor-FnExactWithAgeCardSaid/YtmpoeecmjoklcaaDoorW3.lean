/- A small verified machine for the operations of the given program, and plain laws of what its functions compute; without conditions of its own. Part 4. -/
import Derived.Test.YtmpoeecmjoklcaaDoorW2
import Derived.Lib.AppendIntMem
import Derived.Lib.LaidTab
import Derived.Stop.LaidErr
set_option linter.unusedVariables false
set_option linter.unusedSimpArgs false
section
/- What the program's functions come to, each by itself: printed by a program of this session's own (EwShow) out of the small machine. -/
set_option linter.unusedVariables false
namespace Go.Ev

def s_ContainsFunc_AllDone_1 (a0 : (List (Int × (S × (Int × (S × (S × ((List Fld) × (S × (S × (S × ((List Fld) × (S × (S × ((List Fld) × (Int × ((List Fld) × (S × (Int × (Int × (Bool × (Int × (Int × (Int × (Int × (Bool × (Int × ((List Fld) × (S × (List (Int × Rsp))))))))))))))))))))))))))))))) (a1 : Unit) (Q : (Bool → Prop)) : Prop :=
  pIndexFunc_AllDone_1 a0 () ∧
  (Q (decide (0 ≤ (mIndexFunc_AllDone_1 a0 ()))))

def s_ContainsFunc_CcHas_1 (a0 : (List Fld)) (a1 : S) (Q : (Bool → Prop)) : Prop :=
  pIndexFunc_CcHas_1 a0 a1 ∧
  (Q (decide (0 ≤ (mIndexFunc_CcHas_1 a0 a1))))

def s_ContainsFunc_FieldsOk_1 (a0 : (List Fld)) (a1 : Unit) (Q : (Bool → Prop)) : Prop :=
  pIndexFunc_FieldsOk_1 a0 () ∧
  (Q (decide (0 ≤ (mIndexFunc_FieldsOk_1 a0 ()))))

def s_ContainsFunc_ShardOk_1 (a0 : (List Slt)) (a1 : Slt) (Q : (Bool → Prop)) : Prop :=
  pIndexFunc_ShardOk_1 a0 a1 ∧
  (Q (decide (0 ≤ (mIndexFunc_ShardOk_1 a0 a1))))

def s_IndexFunc_AllDone_1 (a0 : (List (Int × (S × (Int × (S × (S × ((List Fld) × (S × (S × (S × ((List Fld) × (S × (S × ((List Fld) × (Int × ((List Fld) × (S × (Int × (Int × (Bool × (Int × (Int × (Int × (Int × (Bool × (Int × ((List Fld) × (S × (List (Int × Rsp))))))))))))))))))))))))))))))) (a1 : Unit) (Q : (Int → Prop)) : Prop :=
  (∀ L0 : (Int → Prop),
    ((
        (∀ y1 : Int,
          ((
              (y1 < (a0.length : Int) →
                0 ≤ y1 ∧
                y1 < (a0.length : Int) ∧
                pAllDone_1 (rx a0 y1) ∧
                ((mAllDone_1 (rx a0 y1)) = true →
                  (Q y1)) ∧
                (¬ ((mAllDone_1 (rx a0 y1)) = true) →
                  (L0 (IntKind.i64.wrap (y1 + 1))))) ∧
              (¬ (y1 < (a0.length : Int)) →
                (Q (-1)))
            ) →
            (L0 y1)))
      ) →
      (L0 0)))

def s_IndexFunc_CcHas_1 (a0 : (List Fld)) (a1 : S) (Q : (Int → Prop)) : Prop :=
  (∀ L0 : (Int → Prop),
    ((
        (∀ y1 : Int,
          ((
              (y1 < (a0.length : Int) →
                0 ≤ y1 ∧
                y1 < (a0.length : Int) ∧
                pCcHas_1 (rx a0 y1) a1 ∧
                ((mCcHas_1 (rx a0 y1) a1) = true →
                  (Q y1)) ∧
                (¬ ((mCcHas_1 (rx a0 y1) a1) = true) →
                  (L0 (IntKind.i64.wrap (y1 + 1))))) ∧
              (¬ (y1 < (a0.length : Int)) →
                (Q (-1)))
            ) →
            (L0 y1)))
      ) →
      (L0 0)))

def s_IndexFunc_FieldsOk_1 (a0 : (List Fld)) (a1 : Unit) (Q : (Int → Prop)) : Prop :=
  (∀ L0 : (Int → Prop),
    ((
        (∀ y1 : Int,
          ((
              (y1 < (a0.length : Int) →
                0 ≤ y1 ∧
                y1 < (a0.length : Int) ∧
                pFieldsOk_1 (rx a0 y1) ∧
                ((mFieldsOk_1 (rx a0 y1)) = true →
                  (Q y1)) ∧
                (¬ ((mFieldsOk_1 (rx a0 y1)) = true) →
                  (L0 (IntKind.i64.wrap (y1 + 1))))) ∧
              (¬ (y1 < (a0.length : Int)) →
                (Q (-1)))
            ) →
            (L0 y1)))
      ) →
      (L0 0)))

def s_IndexFunc_ShardOk_1 (a0 : (List Slt)) (a1 : Slt) (Q : (Int → Prop)) : Prop :=
  (∀ L0 : (Int → Prop),
    ((
        (∀ y1 : Int,
          ((
              (y1 < (a0.length : Int) →
                0 ≤ y1 ∧
                y1 < (a0.length : Int) ∧
                pShardOk_1 (rx a0 y1) a1 ∧
                ((mShardOk_1 (rx a0 y1) a1) = true →
                  (Q y1)) ∧
                (¬ ((mShardOk_1 (rx a0 y1) a1) = true) →
                  (L0 (IntKind.i64.wrap (y1 + 1))))) ∧
              (¬ (y1 < (a0.length : Int)) →
                (Q (-1)))
            ) →
            (L0 y1)))
      ) →
      (L0 0)))

def s_impl_AllDone (a0 : (Int × (Int × ((List (Int × (S × (Int × (S × (S × ((List Fld) × (S × (S × (S × ((List Fld) × (S × (S × ((List Fld) × (Int × ((List Fld) × (S × (Int × (Int × (Bool × (Int × (Int × (Int × (Int × (Bool × (Int × ((List Fld) × (S × (List (Int × Rsp)))))))))))))))))))))))))))))) × ((List Shd) × ((List Gen) × ((List Flt) × ((List Rsc) × (List Evt))))))))) (Q : (Bool → Prop)) : Prop :=
  pContainsFunc_AllDone_1 a0.2.2.1 () ∧
  (Q (decide (¬ ((mContainsFunc_AllDone_1 a0.2.2.1 ()) = true))))

def s_impl_AllDone_1 (a0 : (Int × (S × (Int × (S × (S × ((List Fld) × (S × (S × (S × ((List Fld) × (S × (S × ((List Fld) × (Int × ((List Fld) × (S × (Int × (Int × (Bool × (Int × (Int × (Int × (Int × (Bool × (Int × ((List Fld) × (S × (List (Int × Rsp)))))))))))))))))))))))))))))) (Q : (Bool → Prop)) : Prop :=
  (Q (decide (a0.1 ≠ 7)))

def s_impl_Blocked (a0 : (Int × (Int × ((List (Int × (S × (Int × (S × (S × ((List Fld) × (S × (S × (S × ((List Fld) × (S × (S × ((List Fld) × (Int × ((List Fld) × (S × (Int × (Int × (Bool × (Int × (Int × (Int × (Int × (Bool × (Int × ((List Fld) × (S × (List (Int × Rsp)))))))))))))))))))))))))))))) × ((List Shd) × ((List Gen) × ((List Flt) × ((List Rsc) × (List Evt))))))))) (a1 : Int) (Q : (Bool → Prop)) : Prop :=
  pIn a1 0 (IntKind.i64.wrap ((a0.2.2.1.length : Int) - 1)) ∧
  (¬ ((mIn a1 0 (IntKind.i64.wrap ((a0.2.2.1.length : Int) - 1))) = true) →
    (Q true)) ∧
  (¬ (¬ ((mIn a1 0 (IntKind.i64.wrap ((a0.2.2.1.length : Int) - 1))) = true)) →
    0 ≤ a1 ∧
    a1 < (a0.2.2.1.length : Int) ∧
    ((rx a0.2.2.1 a1).1 = 7 →
      (Q true)) ∧
    (¬ ((rx a0.2.2.1 a1).1 = 7) →
      ((rx a0.2.2.1 a1).1 = 5 →
        pIn (rx a0.2.2.1 a1).2.2.2.2.2.2.2.2.2.2.2.2.2.2.2.2.2.2.2.1 0 (IntKind.i64.wrap ((a0.2.2.2.2.2.1.length : Int) - 1)) ∧
        ((mIn (rx a0.2.2.1 a1).2.2.2.2.2.2.2.2.2.2.2.2.2.2.2.2.2.2.2.1 0 (IntKind.i64.wrap ((a0.2.2.2.2.2.1.length : Int) - 1))) = true →
          0 ≤ (rx a0.2.2.1 a1).2.2.2.2.2.2.2.2.2.2.2.2.2.2.2.2.2.2.2.1 ∧
          (rx a0.2.2.1 a1).2.2.2.2.2.2.2.2.2.2.2.2.2.2.2.2.2.2.2.1 < (a0.2.2.2.2.2.1.length : Int) ∧
          (Q (rx a0.2.2.2.2.2.1 (rx a0.2.2.1 a1).2.2.2.2.2.2.2.2.2.2.2.2.2.2.2.2.2.2.2.1).2.1)) ∧
        (¬ ((mIn (rx a0.2.2.1 a1).2.2.2.2.2.2.2.2.2.2.2.2.2.2.2.2.2.2.2.1 0 (IntKind.i64.wrap ((a0.2.2.2.2.2.1.length : Int) - 1))) = true) →
          (Q false))) ∧
      (¬ ((rx a0.2.2.1 a1).1 = 5) →
        (Q false))))

def s_impl_CcHas (a0 : (List Fld)) (a1 : S) (Q : (Bool → Prop)) : Prop :=
  pDirectives a0 ∧
  pContainsFunc_CcHas_1 (mDirectives a0) a1 ∧
  (Q (mContainsFunc_CcHas_1 (mDirectives a0) a1))

def s_impl_CcHas_1 (a0 : Fld) (a1 : S) (Q : (Bool → Prop)) : Prop :=
  (Q (decide (a0.1 = a1)))

def s_impl_Dec (a0 : Int) (Q : (S → Prop)) : Prop :=
  pItoa a0 ∧
  (Q (mItoa a0))

def s_impl_Directives (a0 : (List Fld)) (Q : ((List Fld) → Prop)) : Prop :=
  pFieldGet a0 (lit [99, 97, 99, 104, 101, 45, 99, 111, 110, 116, 114, 111, 108]) ∧
  pSplitList (mFieldGet a0 (lit [99, 97, 99, 104, 101, 45, 99, 111, 110, 116, 114, 111, 108])).1 ∧
  (∀ L0 : (((List Fld) × Int) → Prop),
    ((
        (∀ y1 : ((List Fld) × Int),
          ((
              (y1.2 < ((mSplitList (mFieldGet a0 (lit [99, 97, 99, 104, 101, 45, 99, 111, 110, 116, 114, 111, 108])).1).length : Int) →
                0 ≤ y1.2 ∧
                y1.2 < ((mSplitList (mFieldGet a0 (lit [99, 97, 99, 104, 101, 45, 99, 111, 110, 116, 114, 111, 108])).1).length : Int) ∧
                pCut (rx (mSplitList (mFieldGet a0 (lit [99, 97, 99, 104, 101, 45, 99, 111, 110, 116, 114, 111, 108])).1) y1.2) (lit [61]) ∧
                pIsTokenText (mCut (rx (mSplitList (mFieldGet a0 (lit [99, 97, 99, 104, 101, 45, 99, 111, 110, 116, 114, 111, 108])).1) y1.2) (lit [61])).1 ∧
                (¬ ((mIsTokenText (mCut (rx (mSplitList (mFieldGet a0 (lit [99, 97, 99, 104, 101, 45, 99, 111, 110, 116, 114, 111, 108])).1) y1.2) (lit [61])).1) = true) →
                  (L0 (y1.1, (IntKind.i64.wrap (y1.2 + 1))))) ∧
                (¬ (¬ ((mIsTokenText (mCut (rx (mSplitList (mFieldGet a0 (lit [99, 97, 99, 104, 101, 45, 99, 111, 110, 116, 114, 111, 108])).1) y1.2) (lit [61])).1) = true)) →
                  (2 ≤ ((mCut (rx (mSplitList (mFieldGet a0 (lit [99, 97, 99, 104, 101, 45, 99, 111, 110, 116, 114, 111, 108])).1) y1.2) (lit [61])).2.1.size : Int) →
                    (0 : Int) ≤ 0 ∧
                    0 < ((mCut (rx (mSplitList (mFieldGet a0 (lit [99, 97, 99, 104, 101, 45, 99, 111, 110, 116, 114, 111, 108])).1) y1.2) (lit [61])).2.1.size : Int) ∧
                    ((bt (mCut (rx (mSplitList (mFieldGet a0 (lit [99, 97, 99, 104, 101, 45, 99, 111, 110, 116, 114, 111, 108])).1) y1.2) (lit [61])).2.1 0) = 34 →
                      0 ≤ (IntKind.i64.wrap (((mCut (rx (mSplitList (mFieldGet a0 (lit [99, 97, 99, 104, 101, 45, 99, 111, 110, 116, 114, 111, 108])).1) y1.2) (lit [61])).2.1.size : Int) - 1)) ∧
                      (IntKind.i64.wrap (((mCut (rx (mSplitList (mFieldGet a0 (lit [99, 97, 99, 104, 101, 45, 99, 111, 110, 116, 114, 111, 108])).1) y1.2) (lit [61])).2.1.size : Int) - 1)) < ((mCut (rx (mSplitList (mFieldGet a0 (lit [99, 97, 99, 104, 101, 45, 99, 111, 110, 116, 114, 111, 108])).1) y1.2) (lit [61])).2.1.size : Int) ∧
                      ((bt (mCut (rx (mSplitList (mFieldGet a0 (lit [99, 97, 99, 104, 101, 45, 99, 111, 110, 116, 114, 111, 108])).1) y1.2) (lit [61])).2.1 (IntKind.i64.wrap (((mCut (rx (mSplitList (mFieldGet a0 (lit [99, 97, 99, 104, 101, 45, 99, 111, 110, 116, 114, 111, 108])).1) y1.2) (lit [61])).2.1.size : Int) - 1))) = 34 →
                        (0 : Int) ≤ 1 ∧
                        1 ≤ (IntKind.i64.wrap (((mCut (rx (mSplitList (mFieldGet a0 (lit [99, 97, 99, 104, 101, 45, 99, 111, 110, 116, 114, 111, 108])).1) y1.2) (lit [61])).2.1.size : Int) - 1)) ∧
                        (IntKind.i64.wrap (((mCut (rx (mSplitList (mFieldGet a0 (lit [99, 97, 99, 104, 101, 45, 99, 111, 110, 116, 114, 111, 108])).1) y1.2) (lit [61])).2.1.size : Int) - 1)) ≤ ((mCut (rx (mSplitList (mFieldGet a0 (lit [99, 97, 99, 104, 101, 45, 99, 111, 110, 116, 114, 111, 108])).1) y1.2) (lit [61])).2.1.size : Int) ∧
                        pLower (mCut (rx (mSplitList (mFieldGet a0 (lit [99, 97, 99, 104, 101, 45, 99, 111, 110, 116, 114, 111, 108])).1) y1.2) (lit [61])).1 ∧
                        (y1.1.length + [((mLower (mCut (rx (mSplitList (mFieldGet a0 (lit [99, 97, 99, 104, 101, 45, 99, 111, 110, 116, 114, 111, 108])).1) y1.2) (lit [61])).1), ((mCut (rx (mSplitList (mFieldGet a0 (lit [99, 97, 99, 104, 101, 45, 99, 111, 110, 116, 114, 111, 108])).1) y1.2) (lit [61])).2.1.extract ((1 : Int).toNat) (IntKind.i64.wrap (((mCut (rx (mSplitList (mFieldGet a0 (lit [99, 97, 99, 104, 101, 45, 99, 111, 110, 116, 114, 111, 108])).1) y1.2) (lit [61])).2.1.size : Int) - 1)).toNat))].length) * 32 ≤ 140737488355328 ∧
                        (L0 ((y1.1 ++ [((mLower (mCut (rx (mSplitList (mFieldGet a0 (lit [99, 97, 99, 104, 101, 45, 99, 111, 110, 116, 114, 111, 108])).1) y1.2) (lit [61])).1), ((mCut (rx (mSplitList (mFieldGet a0 (lit [99, 97, 99, 104, 101, 45, 99, 111, 110, 116, 114, 111, 108])).1) y1.2) (lit [61])).2.1.extract ((1 : Int).toNat) (IntKind.i64.wrap (((mCut (rx (mSplitList (mFieldGet a0 (lit [99, 97, 99, 104, 101, 45, 99, 111, 110, 116, 114, 111, 108])).1) y1.2) (lit [61])).2.1.size : Int) - 1)).toNat))]), (IntKind.i64.wrap (y1.2 + 1))))) ∧
                      (¬ ((bt (mCut (rx (mSplitList (mFieldGet a0 (lit [99, 97, 99, 104, 101, 45, 99, 111, 110, 116, 114, 111, 108])).1) y1.2) (lit [61])).2.1 (IntKind.i64.wrap (((mCut (rx (mSplitList (mFieldGet a0 (lit [99, 97, 99, 104, 101, 45, 99, 111, 110, 116, 114, 111, 108])).1) y1.2) (lit [61])).2.1.size : Int) - 1))) = 34) →
                        pLower (mCut (rx (mSplitList (mFieldGet a0 (lit [99, 97, 99, 104, 101, 45, 99, 111, 110, 116, 114, 111, 108])).1) y1.2) (lit [61])).1 ∧
                        (y1.1.length + [((mLower (mCut (rx (mSplitList (mFieldGet a0 (lit [99, 97, 99, 104, 101, 45, 99, 111, 110, 116, 114, 111, 108])).1) y1.2) (lit [61])).1), (mCut (rx (mSplitList (mFieldGet a0 (lit [99, 97, 99, 104, 101, 45, 99, 111, 110, 116, 114, 111, 108])).1) y1.2) (lit [61])).2.1)].length) * 32 ≤ 140737488355328 ∧
                        (L0 ((y1.1 ++ [((mLower (mCut (rx (mSplitList (mFieldGet a0 (lit [99, 97, 99, 104, 101, 45, 99, 111, 110, 116, 114, 111, 108])).1) y1.2) (lit [61])).1), (mCut (rx (mSplitList (mFieldGet a0 (lit [99, 97, 99, 104, 101, 45, 99, 111, 110, 116, 114, 111, 108])).1) y1.2) (lit [61])).2.1)]), (IntKind.i64.wrap (y1.2 + 1)))))) ∧
                    (¬ ((bt (mCut (rx (mSplitList (mFieldGet a0 (lit [99, 97, 99, 104, 101, 45, 99, 111, 110, 116, 114, 111, 108])).1) y1.2) (lit [61])).2.1 0) = 34) →
                      pLower (mCut (rx (mSplitList (mFieldGet a0 (lit [99, 97, 99, 104, 101, 45, 99, 111, 110, 116, 114, 111, 108])).1) y1.2) (lit [61])).1 ∧
                      (y1.1.length + [((mLower (mCut (rx (mSplitList (mFieldGet a0 (lit [99, 97, 99, 104, 101, 45, 99, 111, 110, 116, 114, 111, 108])).1) y1.2) (lit [61])).1), (mCut (rx (mSplitList (mFieldGet a0 (lit [99, 97, 99, 104, 101, 45, 99, 111, 110, 116, 114, 111, 108])).1) y1.2) (lit [61])).2.1)].length) * 32 ≤ 140737488355328 ∧
                      (L0 ((y1.1 ++ [((mLower (mCut (rx (mSplitList (mFieldGet a0 (lit [99, 97, 99, 104, 101, 45, 99, 111, 110, 116, 114, 111, 108])).1) y1.2) (lit [61])).1), (mCut (rx (mSplitList (mFieldGet a0 (lit [99, 97, 99, 104, 101, 45, 99, 111, 110, 116, 114, 111, 108])).1) y1.2) (lit [61])).2.1)]), (IntKind.i64.wrap (y1.2 + 1)))))) ∧
                  (¬ (2 ≤ ((mCut (rx (mSplitList (mFieldGet a0 (lit [99, 97, 99, 104, 101, 45, 99, 111, 110, 116, 114, 111, 108])).1) y1.2) (lit [61])).2.1.size : Int)) →
                    pLower (mCut (rx (mSplitList (mFieldGet a0 (lit [99, 97, 99, 104, 101, 45, 99, 111, 110, 116, 114, 111, 108])).1) y1.2) (lit [61])).1 ∧
                    (y1.1.length + [((mLower (mCut (rx (mSplitList (mFieldGet a0 (lit [99, 97, 99, 104, 101, 45, 99, 111, 110, 116, 114, 111, 108])).1) y1.2) (lit [61])).1), (mCut (rx (mSplitList (mFieldGet a0 (lit [99, 97, 99, 104, 101, 45, 99, 111, 110, 116, 114, 111, 108])).1) y1.2) (lit [61])).2.1)].length) * 32 ≤ 140737488355328 ∧
                    (L0 ((y1.1 ++ [((mLower (mCut (rx (mSplitList (mFieldGet a0 (lit [99, 97, 99, 104, 101, 45, 99, 111, 110, 116, 114, 111, 108])).1) y1.2) (lit [61])).1), (mCut (rx (mSplitList (mFieldGet a0 (lit [99, 97, 99, 104, 101, 45, 99, 111, 110, 116, 114, 111, 108])).1) y1.2) (lit [61])).2.1)]), (IntKind.i64.wrap (y1.2 + 1))))))) ∧
              (¬ (y1.2 < ((mSplitList (mFieldGet a0 (lit [99, 97, 99, 104, 101, 45, 99, 111, 110, 116, 114, 111, 108])).1).length : Int)) →
                (Q y1.1))
            ) →
            (L0 y1)))
      ) →
      (L0 ([], 0))))

def s_impl_FieldGet (a0 : (List Fld)) (a1 : S) (Q : ((S × Bool) → Prop)) : Prop :=
  (∀ L0 : (((List S) × Int) → Prop),
    ((
        (∀ y1 : ((List S) × Int),
          ((
              (y1.2 < (a0.length : Int) →
                0 ≤ y1.2 ∧
                y1.2 < (a0.length : Int) ∧
                ((rx a0 y1.2).1 = a1 →
                  (y1.1.length + [(rx a0 y1.2).2].length) * 16 ≤ 140737488355328 ∧
                  (L0 ((y1.1 ++ [(rx a0 y1.2).2]), (IntKind.i64.wrap (y1.2 + 1))))) ∧
                (¬ ((rx a0 y1.2).1 = a1) →
                  (L0 (y1.1, (IntKind.i64.wrap (y1.2 + 1)))))) ∧
              (¬ (y1.2 < (a0.length : Int)) →
                pJoin y1.1 (lit [44, 32]) ∧
                (Q ((mJoin y1.1 (lit [44, 32])), (decide (0 < (y1.1.length : Int))))))
            ) →
            (L0 y1)))
      ) →
      (L0 ([], 0))))

def s_impl_FieldsOk (a0 : (List Fld)) (Q : (Bool → Prop)) : Prop :=
  ((a0.length : Int) ≤ 12 →
    pContainsFunc_FieldsOk_1 a0 () ∧
    (Q (decide (¬ ((mContainsFunc_FieldsOk_1 a0 ()) = true))))) ∧
  (¬ ((a0.length : Int) ≤ 12) →
    (Q false))

def s_impl_FieldsOk_1 (a0 : Fld) (Q : (Bool → Prop)) : Prop :=
  pFieldOk a0 ∧
  (Q (decide (¬ ((mFieldOk a0) = true))))

def s_impl_Filled (a0 : Shd) (Q : (Int → Prop)) : Prop :=
  pShardOk a0 ∧
  (¬ ((mShardOk a0) = true) →
    (Q 0)) ∧
  (¬ (¬ ((mShardOk a0) = true)) →
    pBodies a0.2.2.1 ∧
    (Q (mBodies a0.2.2.1)))

def s_impl_Heuristic (a0 : Int) (Q : (Bool → Prop)) : Prop :=
  (a0 = 200 →
    (a0 = 200 →
      (Q true)) ∧
    (¬ (a0 = 200) →
      (Q false))) ∧
  (¬ (a0 = 200) →
    (a0 = 203 →
      (a0 = 203 →
        (Q true)) ∧
      (¬ (a0 = 203) →
        (Q false))) ∧
    (¬ (a0 = 203) →
      (a0 = 204 →
        (a0 = 204 →
          (Q true)) ∧
        (¬ (a0 = 204) →
          (Q false))) ∧
      (¬ (a0 = 204) →
        (a0 = 300 →
          (a0 = 300 →
            (Q true)) ∧
          (¬ (a0 = 300) →
            (Q false))) ∧
        (¬ (a0 = 300) →
          (a0 = 301 →
            (a0 = 301 →
              (Q true)) ∧
            (¬ (a0 = 301) →
              (Q false))) ∧
          (¬ (a0 = 301) →
            (a0 = 404 →
              (a0 = 404 →
                (Q true)) ∧
              (¬ (a0 = 404) →
                (Q false))) ∧
            (¬ (a0 = 404) →
              (a0 = 410 →
                (Q true)) ∧
              (¬ (a0 = 410) →
                (Q false))))))))

def s_impl_IsTokenText (a0 : S) (Q : (Bool → Prop)) : Prop :=
  (∀ L0 : (Int → Prop),
    ((
        (∀ y1 : Int,
          ((
              (y1 < (a0.size : Int) →
                0 ≤ y1 ∧
                y1 < (a0.size : Int) ∧
                pIsLetterOrDigit (bt a0 y1) ∧
                (¬ ((mIsLetterOrDigit (bt a0 y1)) = true) →
                  0 ≤ y1 ∧
                  y1 < (a0.size : Int) ∧
                  pIndexByte (lit [33, 35, 36, 37, 38, 39, 42, 43, 45, 46, 94, 95, 124, 126, 96]) (bt a0 y1) ∧
                  ((mIndexByte (lit [33, 35, 36, 37, 38, 39, 42, 43, 45, 46, 94, 95, 124, 126, 96]) (bt a0 y1)) < 0 →
                    (Q false)) ∧
                  (¬ ((mIndexByte (lit [33, 35, 36, 37, 38, 39, 42, 43, 45, 46, 94, 95, 124, 126, 96]) (bt a0 y1)) < 0) →
                    (L0 (IntKind.i64.wrap (y1 + 1))))) ∧
                (¬ (¬ ((mIsLetterOrDigit (bt a0 y1)) = true)) →
                  (L0 (IntKind.i64.wrap (y1 + 1))))) ∧
              (¬ (y1 < (a0.size : Int)) →
                (Q (decide (a0 ≠ (lit [])))))
            ) →
            (L0 y1)))
      ) →
      (L0 0)))

def s_impl_IsValueText (a0 : S) (Q : (Bool → Prop)) : Prop :=
  (∀ L0 : (Int → Prop),
    ((
        (∀ y1 : Int,
          ((
              (y1 < (a0.size : Int) →
                0 ≤ y1 ∧
                y1 < (a0.size : Int) ∧
                ((bt a0 y1) < 32 →
                  0 ≤ y1 ∧
                  y1 < (a0.size : Int) ∧
                  ((bt a0 y1) ≠ 9 →
                    (Q false)) ∧
                  (¬ ((bt a0 y1) ≠ 9) →
                    0 ≤ y1 ∧
                    y1 < (a0.size : Int) ∧
                    ((bt a0 y1) = 127 →
                      (Q false)) ∧
                    (¬ ((bt a0 y1) = 127) →
                      (L0 (IntKind.i64.wrap (y1 + 1)))))) ∧
                (¬ ((bt a0 y1) < 32) →
                  0 ≤ y1 ∧
                  y1 < (a0.size : Int) ∧
                  ((bt a0 y1) = 127 →
                    (Q false)) ∧
                  (¬ ((bt a0 y1) = 127) →
                    (L0 (IntKind.i64.wrap (y1 + 1)))))) ∧
              (¬ (y1 < (a0.size : Int)) →
                pTrim a0 ∧
                (Q (decide ((mTrim a0) = a0))))
            ) →
            (L0 y1)))
      ) →
      (L0 0)))

def s_impl_MayShare (a0 : Req) (a1 : Flt) (a2 : Int) (Q : (Bool → Prop)) : Prop :=
  (¬ (a1.2.1 = true) →
    (a1.2.2.2.1 = true →
      (a1.2.2.2.2.1 = true →
        pPicked (a1.2.2.2.2.2.1, a1.2.2.2.2.2.2.1, a1.2.2.2.2.2.2.2.1, a1.2.2.2.2.2.2.2.2.1) (a1.2.2.2.2.2.2.2.2.2.1, a1.2.2.2.2.2.2.2.2.2.2.1, a1.2.2.2.2.2.2.2.2.2.2.2.1) ∧
        pVaryFits a0 (a1.2.2.2.2.2.2.2.2.2.1, a1.2.2.2.2.2.2.2.2.2.2.1, a1.2.2.2.2.2.2.2.2.2.2.2.1) (mPicked (a1.2.2.2.2.2.1, a1.2.2.2.2.2.2.1, a1.2.2.2.2.2.2.2.1, a1.2.2.2.2.2.2.2.2.1) (a1.2.2.2.2.2.2.2.2.2.1, a1.2.2.2.2.2.2.2.2.2.2.1, a1.2.2.2.2.2.2.2.2.2.2.2.1)) ∧
        ((mVaryFits a0 (a1.2.2.2.2.2.2.2.2.2.1, a1.2.2.2.2.2.2.2.2.2.2.1, a1.2.2.2.2.2.2.2.2.2.2.2.1) (mPicked (a1.2.2.2.2.2.1, a1.2.2.2.2.2.2.1, a1.2.2.2.2.2.2.2.1, a1.2.2.2.2.2.2.2.2.1) (a1.2.2.2.2.2.2.2.2.2.1, a1.2.2.2.2.2.2.2.2.2.2.1, a1.2.2.2.2.2.2.2.2.2.2.2.1))) = true →
          pItsOwn a0 ∧
          (Q (decide (¬ ((mItsOwn a0) = true))))) ∧
        (¬ ((mVaryFits a0 (a1.2.2.2.2.2.2.2.2.2.1, a1.2.2.2.2.2.2.2.2.2.2.1, a1.2.2.2.2.2.2.2.2.2.2.2.1) (mPicked (a1.2.2.2.2.2.1, a1.2.2.2.2.2.2.1, a1.2.2.2.2.2.2.2.1, a1.2.2.2.2.2.2.2.2.1) (a1.2.2.2.2.2.2.2.2.2.1, a1.2.2.2.2.2.2.2.2.2.2.1, a1.2.2.2.2.2.2.2.2.2.2.2.1))) = true) →
          (Q false))) ∧
      (¬ (a1.2.2.2.2.1 = true) →
        (Q false))) ∧
    (¬ (a1.2.2.2.1 = true) →
      (Q false))) ∧
  (¬ (¬ (a1.2.1 = true)) →
    (Q false))

def s_impl_Normal (a0 : S) (Q : (S → Prop)) : Prop :=
  pSplitList a0 ∧
  pJoin (mSplitList a0) (lit [44, 32]) ∧
  (Q (mJoin (mSplitList a0) (lit [44, 32])))

def s_impl_OnlyStored (a0 : Req) (Q : (Bool → Prop)) : Prop :=
  pCcHas a0.2.2.1 (lit [111, 110, 108, 121, 45, 105, 102, 45, 99, 97, 99, 104, 101, 100]) ∧
  (Q (mCcHas a0.2.2.1 (lit [111, 110, 108, 121, 45, 105, 102, 45, 99, 97, 99, 104, 101, 100])))

def s_impl_OriginOk (a0 : (List Rsc)) (Q : (Bool → Prop)) : Prop :=
  (∀ L0 : (Int → Prop),
    ((
        (∀ y1 : Int,
          ((
              (y1 < (a0.length : Int) →
                0 ≤ y1 ∧
                y1 < (a0.length : Int) ∧
                pUriOk (rx a0 y1).1 ∧
                (¬ ((mUriOk (rx a0 y1).1) = true) →
                  (Q false)) ∧
                (¬ (¬ ((mUriOk (rx a0 y1).1) = true)) →
                  (0 < y1 →
                    0 ≤ (IntKind.i64.wrap (y1 - 1)) ∧
                    (IntKind.i64.wrap (y1 - 1)) < (a0.length : Int) ∧
                    (¬ (strLt (rx a0 (IntKind.i64.wrap (y1 - 1))).1 (rx a0 y1).1) →
                      (Q false)) ∧
                    (¬ (¬ (strLt (rx a0 (IntKind.i64.wrap (y1 - 1))).1 (rx a0 y1).1)) →
                      (60 < ((rx a0 y1).2.1.size : Int) →
                        (Q false)) ∧
                      (¬ (60 < ((rx a0 y1).2.1.size : Int)) →
                        pIn (rx a0 y1).2.2.1 1 100000 ∧
                        (¬ ((mIn (rx a0 y1).2.2.1 1 100000) = true) →
                          (Q false)) ∧
                        (¬ (¬ ((mIn (rx a0 y1).2.2.1 1 100000) = true)) →
                          pIn (rx a0 y1).2.2.2.1 0 2000000000 ∧
                          (¬ ((mIn (rx a0 y1).2.2.2.1 0 2000000000) = true) →
                            (Q false)) ∧
                          (¬ (¬ ((mIn (rx a0 y1).2.2.2.1 0 2000000000) = true)) →
                            (6 < ((rx a0 y1).2.2.2.2.2.2.length : Int) →
                              (Q false)) ∧
                            (¬ (6 < ((rx a0 y1).2.2.2.2.2.2.length : Int)) →
                              pOwnFields (rx a0 y1).2.2.2.2.2.2 ∧
                              (¬ ((mOwnFields (rx a0 y1).2.2.2.2.2.2) = true) →
                                (Q false)) ∧
                              (¬ (¬ ((mOwnFields (rx a0 y1).2.2.2.2.2.2) = true)) →
                                (L0 (IntKind.i64.wrap (y1 + 1)))))))))) ∧
                  (¬ (0 < y1) →
                    (60 < ((rx a0 y1).2.1.size : Int) →
                      (Q false)) ∧
                    (¬ (60 < ((rx a0 y1).2.1.size : Int)) →
                      pIn (rx a0 y1).2.2.1 1 100000 ∧
                      (¬ ((mIn (rx a0 y1).2.2.1 1 100000) = true) →
                        (Q false)) ∧
                      (¬ (¬ ((mIn (rx a0 y1).2.2.1 1 100000) = true)) →
                        pIn (rx a0 y1).2.2.2.1 0 2000000000 ∧
                        (¬ ((mIn (rx a0 y1).2.2.2.1 0 2000000000) = true) →
                          (Q false)) ∧
                        (¬ (¬ ((mIn (rx a0 y1).2.2.2.1 0 2000000000) = true)) →
                          (6 < ((rx a0 y1).2.2.2.2.2.2.length : Int) →
                            (Q false)) ∧
                          (¬ (6 < ((rx a0 y1).2.2.2.2.2.2.length : Int)) →
                            pOwnFields (rx a0 y1).2.2.2.2.2.2 ∧
                            (¬ ((mOwnFields (rx a0 y1).2.2.2.2.2.2) = true) →
                              (Q false)) ∧
                            (¬ (¬ ((mOwnFields (rx a0 y1).2.2.2.2.2.2) = true)) →
                              (L0 (IntKind.i64.wrap (y1 + 1))))))))))) ∧
              (¬ (y1 < (a0.length : Int)) →
                (Q (decide ((a0.length : Int) ≤ 8))))
            ) →
            (L0 y1)))
      ) →
      (L0 0)))

def s_impl_Picked (a0 : Req) (a1 : Rsp) (Q : ((List Fld) → Prop)) : Prop :=
  pVaryNames a1 ∧
  (∀ L0 : (((List Fld) × Int) → Prop),
    ((
        (∀ y1 : ((List Fld) × Int),
          ((
              (y1.2 < ((mVaryNames a1).length : Int) →
                0 ≤ y1.2 ∧
                y1.2 < ((mVaryNames a1).length : Int) ∧
                pFieldGet a0.2.2.1 (rx (mVaryNames a1) y1.2) ∧
                ((mFieldGet a0.2.2.1 (rx (mVaryNames a1) y1.2)).2 = true →
                  pNormal (mFieldGet a0.2.2.1 (rx (mVaryNames a1) y1.2)).1 ∧
                  (y1.1.length + [((rx (mVaryNames a1) y1.2), (mNormal (mFieldGet a0.2.2.1 (rx (mVaryNames a1) y1.2)).1))].length) * 32 ≤ 140737488355328 ∧
                  (L0 ((y1.1 ++ [((rx (mVaryNames a1) y1.2), (mNormal (mFieldGet a0.2.2.1 (rx (mVaryNames a1) y1.2)).1))]), (IntKind.i64.wrap (y1.2 + 1))))) ∧
                (¬ ((mFieldGet a0.2.2.1 (rx (mVaryNames a1) y1.2)).2 = true) →
                  (L0 (y1.1, (IntKind.i64.wrap (y1.2 + 1)))))) ∧
              (¬ (y1.2 < ((mVaryNames a1).length : Int)) →
                (Q y1.1))
            ) →
            (L0 y1)))
      ) →
      (L0 ([], 0))))

def s_impl_ResponseOk (a0 : Rsp) (Q : (Bool → Prop)) : Prop :=
  pIn a0.1 200 599 ∧
  ((mIn a0.1 200 599) = true →
    pOwnFields a0.2.1 ∧
    ((mOwnFields a0.2.1) = true →
      ((a0.2.2.size : Int) ≤ 60 →
        (a0.2.2 = (lit []) →
          (Q true)) ∧
        (¬ (a0.2.2 = (lit [])) →
          pBodiless a0.1 ∧
          (Q (decide (¬ ((mBodiless a0.1) = true)))))) ∧
      (¬ ((a0.2.2.size : Int) ≤ 60) →
        (Q false))) ∧
    (¬ ((mOwnFields a0.2.1) = true) →
      (Q false))) ∧
  (¬ ((mIn a0.1 200 599) = true) →
    (Q false))

def s_impl_SameFields (a0 : (List Fld)) (a1 : (List Fld)) (Q : (Bool → Prop)) : Prop :=
  pEqual_Field a0 a1 ∧
  (Q (mEqual_Field a0 a1))

def s_impl_ShardOk (a0 : Shd) (Q : (Bool → Prop)) : Prop :=
  pShardSizes a0.1 a0.2.1 ∧
  (¬ ((mShardSizes a0.1 a0.2.1) = true) →
    (Q false)) ∧
  (¬ (¬ ((mShardSizes a0.1 a0.2.1) = true)) →
    (a0.1 < (a0.2.2.1.length : Int) →
      (Q false)) ∧
    (¬ (a0.1 < (a0.2.2.1.length : Int)) →
      (a0.2.2.2 ≠ 0 →
        pIn a0.2.2.2 0 (IntKind.i64.wrap ((a0.2.2.1.length : Int) - 1)) ∧
        (¬ ((mIn a0.2.2.2 0 (IntKind.i64.wrap ((a0.2.2.1.length : Int) - 1))) = true) →
          (Q false)) ∧
        (¬ (¬ ((mIn a0.2.2.2 0 (IntKind.i64.wrap ((a0.2.2.1.length : Int) - 1))) = true)) →
          (∀ L0 : (Int → Prop),
            ((
                (∀ y1 : Int,
                  ((
                      (y1 < (a0.2.2.1.length : Int) →
                        0 ≤ y1 ∧
                        y1 < (a0.2.2.1.length : Int) ∧
                        pStoredOk ((rx a0.2.2.1 y1).1, (rx a0.2.2.1 y1).2.1, (rx a0.2.2.1 y1).2.2.1, (rx a0.2.2.1 y1).2.2.2.1, (rx a0.2.2.1 y1).2.2.2.2.1, (rx a0.2.2.1 y1).2.2.2.2.2.1, (rx a0.2.2.1 y1).2.2.2.2.2.2.1) ∧
                        (¬ ((mStoredOk ((rx a0.2.2.1 y1).1, (rx a0.2.2.1 y1).2.1, (rx a0.2.2.1 y1).2.2.1, (rx a0.2.2.1 y1).2.2.2.1, (rx a0.2.2.1 y1).2.2.2.2.1, (rx a0.2.2.1 y1).2.2.2.2.2.1, (rx a0.2.2.1 y1).2.2.2.2.2.2.1)) = true) →
                          (Q false)) ∧
                        (¬ (¬ ((mStoredOk ((rx a0.2.2.1 y1).1, (rx a0.2.2.1 y1).2.1, (rx a0.2.2.1 y1).2.2.1, (rx a0.2.2.1 y1).2.2.2.1, (rx a0.2.2.1 y1).2.2.2.2.1, (rx a0.2.2.1 y1).2.2.2.2.2.1, (rx a0.2.2.1 y1).2.2.2.2.2.2.1)) = true)) →
                          0 ≤ y1 ∧
                          y1 ≤ (a0.2.2.1.length : Int) ∧
                          pContainsFunc_ShardOk_1 (a0.2.2.1.take y1.toNat) (rx a0.2.2.1 y1) ∧
                          ((mContainsFunc_ShardOk_1 (a0.2.2.1.take y1.toNat) (rx a0.2.2.1 y1)) = true →
                            (Q false)) ∧
                          (¬ ((mContainsFunc_ShardOk_1 (a0.2.2.1.take y1.toNat) (rx a0.2.2.1 y1)) = true) →
                            (L0 (IntKind.i64.wrap (y1 + 1)))))) ∧
                      (¬ (y1 < (a0.2.2.1.length : Int)) →
                        pBodies a0.2.2.1 ∧
                        (Q (decide ((mBodies a0.2.2.1) ≤ a0.2.1))))
                    ) →
                    (L0 y1)))
              ) →
              (L0 0))))) ∧
      (¬ (a0.2.2.2 ≠ 0) →
        (∀ L2 : (Int → Prop),
          ((
              (∀ y3 : Int,
                ((
                    (y3 < (a0.2.2.1.length : Int) →
                      0 ≤ y3 ∧
                      y3 < (a0.2.2.1.length : Int) ∧
                      pStoredOk ((rx a0.2.2.1 y3).1, (rx a0.2.2.1 y3).2.1, (rx a0.2.2.1 y3).2.2.1, (rx a0.2.2.1 y3).2.2.2.1, (rx a0.2.2.1 y3).2.2.2.2.1, (rx a0.2.2.1 y3).2.2.2.2.2.1, (rx a0.2.2.1 y3).2.2.2.2.2.2.1) ∧
                      (¬ ((mStoredOk ((rx a0.2.2.1 y3).1, (rx a0.2.2.1 y3).2.1, (rx a0.2.2.1 y3).2.2.1, (rx a0.2.2.1 y3).2.2.2.1, (rx a0.2.2.1 y3).2.2.2.2.1, (rx a0.2.2.1 y3).2.2.2.2.2.1, (rx a0.2.2.1 y3).2.2.2.2.2.2.1)) = true) →
                        (Q false)) ∧
                      (¬ (¬ ((mStoredOk ((rx a0.2.2.1 y3).1, (rx a0.2.2.1 y3).2.1, (rx a0.2.2.1 y3).2.2.1, (rx a0.2.2.1 y3).2.2.2.1, (rx a0.2.2.1 y3).2.2.2.2.1, (rx a0.2.2.1 y3).2.2.2.2.2.1, (rx a0.2.2.1 y3).2.2.2.2.2.2.1)) = true)) →
                        0 ≤ y3 ∧
                        y3 ≤ (a0.2.2.1.length : Int) ∧
                        pContainsFunc_ShardOk_1 (a0.2.2.1.take y3.toNat) (rx a0.2.2.1 y3) ∧
                        ((mContainsFunc_ShardOk_1 (a0.2.2.1.take y3.toNat) (rx a0.2.2.1 y3)) = true →
                          (Q false)) ∧
                        (¬ ((mContainsFunc_ShardOk_1 (a0.2.2.1.take y3.toNat) (rx a0.2.2.1 y3)) = true) →
                          (L2 (IntKind.i64.wrap (y3 + 1)))))) ∧
                    (¬ (y3 < (a0.2.2.1.length : Int)) →
                      pBodies a0.2.2.1 ∧
                      (Q (decide ((mBodies a0.2.2.1) ≤ a0.2.1))))
                  ) →
                  (L2 y3)))
            ) →
            (L2 0))))))

def s_impl_ShardOk_1 (a0 : Slt) (a1 : Slt) (Q : (Bool → Prop)) : Prop :=
  pStandAlike (a1.1, a1.2.1, a1.2.2.1, a1.2.2.2.1, a1.2.2.2.2.1, a1.2.2.2.2.2.1, a1.2.2.2.2.2.2.1) (a0.1, a0.2.1, a0.2.2.1, a0.2.2.2.1, a0.2.2.2.2.1, a0.2.2.2.2.2.1, a0.2.2.2.2.2.2.1) ∧
  (Q (mStandAlike (a1.1, a1.2.1, a1.2.2.1, a1.2.2.2.1, a1.2.2.2.2.1, a1.2.2.2.2.2.1, a1.2.2.2.2.2.2.1) (a0.1, a0.2.1, a0.2.2.1, a0.2.2.2.1, a0.2.2.2.2.1, a0.2.2.2.2.2.1, a0.2.2.2.2.2.2.1)))

def s_impl_SplitList (a0 : S) (Q : ((List S) → Prop)) : Prop :=
  pCommas a0 ∧
  ((mCommas a0).length + [(a0.size : Int)].length) * 8 ≤ 140737488355328 ∧
  (∀ L0 : (((List S) × (Int × Int)) → Prop),
    ((
        (∀ y1 : ((List S) × (Int × Int)),
          ((
              (y1.2.2 < (((mCommas a0) ++ [(a0.size : Int)]).length : Int) →
                0 ≤ y1.2.2 ∧
                y1.2.2 < (((mCommas a0) ++ [(a0.size : Int)]).length : Int) ∧
                0 ≤ y1.2.1 ∧
                y1.2.1 ≤ (rx ((mCommas a0) ++ [(a0.size : Int)]) y1.2.2) ∧
                (rx ((mCommas a0) ++ [(a0.size : Int)]) y1.2.2) ≤ (a0.size : Int) ∧
                pTrim (a0.extract y1.2.1.toNat (rx ((mCommas a0) ++ [(a0.size : Int)]) y1.2.2).toNat) ∧
                ((mTrim (a0.extract y1.2.1.toNat (rx ((mCommas a0) ++ [(a0.size : Int)]) y1.2.2).toNat)) ≠ (lit []) →
                  (y1.1.length + [(mTrim (a0.extract y1.2.1.toNat (rx ((mCommas a0) ++ [(a0.size : Int)]) y1.2.2).toNat))].length) * 16 ≤ 140737488355328 ∧
                  (L0 ((y1.1 ++ [(mTrim (a0.extract y1.2.1.toNat (rx ((mCommas a0) ++ [(a0.size : Int)]) y1.2.2).toNat))]), (IntKind.i64.wrap ((rx ((mCommas a0) ++ [(a0.size : Int)]) y1.2.2) + 1)), (IntKind.i64.wrap (y1.2.2 + 1))))) ∧
                (¬ ((mTrim (a0.extract y1.2.1.toNat (rx ((mCommas a0) ++ [(a0.size : Int)]) y1.2.2).toNat)) ≠ (lit [])) →
                  (L0 (y1.1, (IntKind.i64.wrap ((rx ((mCommas a0) ++ [(a0.size : Int)]) y1.2.2) + 1)), (IntKind.i64.wrap (y1.2.2 + 1)))))) ∧
              (¬ (y1.2.2 < (((mCommas a0) ++ [(a0.size : Int)]).length : Int)) →
                (Q y1.1))
            ) →
            (L0 y1)))
      ) →
      (L0 ([], 0, 0))))

def s_impl_Storable (a0 : Req) (a1 : Rsp) (Q : (Bool → Prop)) : Prop :=
  (a0.1 ≠ (lit [71, 69, 84]) →
    (Q false)) ∧
  (¬ (a0.1 ≠ (lit [71, 69, 84])) →
    pResponseOk a1 ∧
    (¬ ((mResponseOk a1) = true) →
      (Q false)) ∧
    (¬ (¬ ((mResponseOk a1) = true)) →
      (a1.1 = 304 →
        (Q false)) ∧
      (¬ (a1.1 = 304) →
        pCcHas a0.2.2.1 (lit [110, 111, 45, 115, 116, 111, 114, 101]) ∧
        ((mCcHas a0.2.2.1 (lit [110, 111, 45, 115, 116, 111, 114, 101])) = true →
          (Q false)) ∧
        (¬ ((mCcHas a0.2.2.1 (lit [110, 111, 45, 115, 116, 111, 114, 101])) = true) →
          pStorable_1 (lit [110, 111, 45, 115, 116, 111, 114, 101]) a1 ∧
          ((mStorable_1 (lit [110, 111, 45, 115, 116, 111, 114, 101]) a1) = true →
            (Q false)) ∧
          (¬ ((mStorable_1 (lit [110, 111, 45, 115, 116, 111, 114, 101]) a1) = true) →
            pStorable_1 (lit [112, 114, 105, 118, 97, 116, 101]) a1 ∧
            ((mStorable_1 (lit [112, 114, 105, 118, 97, 116, 101]) a1) = true →
              (Q false)) ∧
            (¬ ((mStorable_1 (lit [112, 114, 105, 118, 97, 116, 101]) a1) = true) →
              pFieldGet a1.2.1 (lit [118, 97, 114, 121]) ∧
              pSplitList (mFieldGet a1.2.1 (lit [118, 97, 114, 121])).1 ∧
              pContains_string (mSplitList (mFieldGet a1.2.1 (lit [118, 97, 114, 121])).1) (lit [42]) ∧
              ((mContains_string (mSplitList (mFieldGet a1.2.1 (lit [118, 97, 114, 121])).1) (lit [42])) = true →
                (Q false)) ∧
              (¬ ((mContains_string (mSplitList (mFieldGet a1.2.1 (lit [118, 97, 114, 121])).1) (lit [42])) = true) →
                pHasField a0.2.2.1 (lit [97, 117, 116, 104, 111, 114, 105, 122, 97, 116, 105, 111, 110]) ∧
                ((mHasField a0.2.2.1 (lit [97, 117, 116, 104, 111, 114, 105, 122, 97, 116, 105, 111, 110])) = true →
                  pStorable_1 (lit [112, 117, 98, 108, 105, 99]) a1 ∧
                  (¬ ((mStorable_1 (lit [112, 117, 98, 108, 105, 99]) a1) = true) →
                    pStorable_1 (lit [115, 45, 109, 97, 120, 97, 103, 101]) a1 ∧
                    (¬ ((mStorable_1 (lit [115, 45, 109, 97, 120, 97, 103, 101]) a1) = true) →
                      pStorable_1 (lit [109, 117, 115, 116, 45, 114, 101, 118, 97, 108, 105, 100, 97, 116, 101]) a1 ∧
                      (¬ ((mStorable_1 (lit [109, 117, 115, 116, 45, 114, 101, 118, 97, 108, 105, 100, 97, 116, 101]) a1) = true) →
                        (Q false)) ∧
                      (¬ (¬ ((mStorable_1 (lit [109, 117, 115, 116, 45, 114, 101, 118, 97, 108, 105, 100, 97, 116, 101]) a1) = true)) →
                        pStorable_1 (lit [112, 117, 98, 108, 105, 99]) a1 ∧
                        ((mStorable_1 (lit [112, 117, 98, 108, 105, 99]) a1) = true →
                          (Q true)) ∧
                        (¬ ((mStorable_1 (lit [112, 117, 98, 108, 105, 99]) a1) = true) →
                          pStorable_1 (lit [109, 97, 120, 45, 97, 103, 101]) a1 ∧
                          ((mStorable_1 (lit [109, 97, 120, 45, 97, 103, 101]) a1) = true →
                            (Q true)) ∧
                          (¬ ((mStorable_1 (lit [109, 97, 120, 45, 97, 103, 101]) a1) = true) →
                            pStorable_1 (lit [115, 45, 109, 97, 120, 97, 103, 101]) a1 ∧
                            ((mStorable_1 (lit [115, 45, 109, 97, 120, 97, 103, 101]) a1) = true →
                              (Q true)) ∧
                            (¬ ((mStorable_1 (lit [115, 45, 109, 97, 120, 97, 103, 101]) a1) = true) →
                              pHasField a1.2.1 (lit [101, 120, 112, 105, 114, 101, 115]) ∧
                              ((mHasField a1.2.1 (lit [101, 120, 112, 105, 114, 101, 115])) = true →
                                (Q true)) ∧
                              (¬ ((mHasField a1.2.1 (lit [101, 120, 112, 105, 114, 101, 115])) = true) →
                                pHeuristic a1.1 ∧
                                (Q (mHeuristic a1.1)))))))) ∧
                    (¬ (¬ ((mStorable_1 (lit [115, 45, 109, 97, 120, 97, 103, 101]) a1) = true)) →
                      pStorable_1 (lit [112, 117, 98, 108, 105, 99]) a1 ∧
                      ((mStorable_1 (lit [112, 117, 98, 108, 105, 99]) a1) = true →
                        (Q true)) ∧
                      (¬ ((mStorable_1 (lit [112, 117, 98, 108, 105, 99]) a1) = true) →
                        pStorable_1 (lit [109, 97, 120, 45, 97, 103, 101]) a1 ∧
                        ((mStorable_1 (lit [109, 97, 120, 45, 97, 103, 101]) a1) = true →
                          (Q true)) ∧
                        (¬ ((mStorable_1 (lit [109, 97, 120, 45, 97, 103, 101]) a1) = true) →
                          pStorable_1 (lit [115, 45, 109, 97, 120, 97, 103, 101]) a1 ∧
                          ((mStorable_1 (lit [115, 45, 109, 97, 120, 97, 103, 101]) a1) = true →
                            (Q true)) ∧
                          (¬ ((mStorable_1 (lit [115, 45, 109, 97, 120, 97, 103, 101]) a1) = true) →
                            pHasField a1.2.1 (lit [101, 120, 112, 105, 114, 101, 115]) ∧
                            ((mHasField a1.2.1 (lit [101, 120, 112, 105, 114, 101, 115])) = true →
                              (Q true)) ∧
                            (¬ ((mHasField a1.2.1 (lit [101, 120, 112, 105, 114, 101, 115])) = true) →
                              pHeuristic a1.1 ∧
                              (Q (mHeuristic a1.1)))))))) ∧
                  (¬ (¬ ((mStorable_1 (lit [112, 117, 98, 108, 105, 99]) a1) = true)) →
                    pStorable_1 (lit [112, 117, 98, 108, 105, 99]) a1 ∧
                    ((mStorable_1 (lit [112, 117, 98, 108, 105, 99]) a1) = true →
                      (Q true)) ∧
                    (¬ ((mStorable_1 (lit [112, 117, 98, 108, 105, 99]) a1) = true) →
                      pStorable_1 (lit [109, 97, 120, 45, 97, 103, 101]) a1 ∧
                      ((mStorable_1 (lit [109, 97, 120, 45, 97, 103, 101]) a1) = true →
                        (Q true)) ∧
                      (¬ ((mStorable_1 (lit [109, 97, 120, 45, 97, 103, 101]) a1) = true) →
                        pStorable_1 (lit [115, 45, 109, 97, 120, 97, 103, 101]) a1 ∧
                        ((mStorable_1 (lit [115, 45, 109, 97, 120, 97, 103, 101]) a1) = true →
                          (Q true)) ∧
                        (¬ ((mStorable_1 (lit [115, 45, 109, 97, 120, 97, 103, 101]) a1) = true) →
                          pHasField a1.2.1 (lit [101, 120, 112, 105, 114, 101, 115]) ∧
                          ((mHasField a1.2.1 (lit [101, 120, 112, 105, 114, 101, 115])) = true →
                            (Q true)) ∧
                          (¬ ((mHasField a1.2.1 (lit [101, 120, 112, 105, 114, 101, 115])) = true) →
                            pHeuristic a1.1 ∧
                            (Q (mHeuristic a1.1)))))))) ∧
                (¬ ((mHasField a0.2.2.1 (lit [97, 117, 116, 104, 111, 114, 105, 122, 97, 116, 105, 111, 110])) = true) →
                  pStorable_1 (lit [112, 117, 98, 108, 105, 99]) a1 ∧
                  ((mStorable_1 (lit [112, 117, 98, 108, 105, 99]) a1) = true →
                    (Q true)) ∧
                  (¬ ((mStorable_1 (lit [112, 117, 98, 108, 105, 99]) a1) = true) →
                    pStorable_1 (lit [109, 97, 120, 45, 97, 103, 101]) a1 ∧
                    ((mStorable_1 (lit [109, 97, 120, 45, 97, 103, 101]) a1) = true →
                      (Q true)) ∧
                    (¬ ((mStorable_1 (lit [109, 97, 120, 45, 97, 103, 101]) a1) = true) →
                      pStorable_1 (lit [115, 45, 109, 97, 120, 97, 103, 101]) a1 ∧
                      ((mStorable_1 (lit [115, 45, 109, 97, 120, 97, 103, 101]) a1) = true →
                        (Q true)) ∧
                      (¬ ((mStorable_1 (lit [115, 45, 109, 97, 120, 97, 103, 101]) a1) = true) →
                        pHasField a1.2.1 (lit [101, 120, 112, 105, 114, 101, 115]) ∧
                        ((mHasField a1.2.1 (lit [101, 120, 112, 105, 114, 101, 115])) = true →
                          (Q true)) ∧
                        (¬ ((mHasField a1.2.1 (lit [101, 120, 112, 105, 114, 101, 115])) = true) →
                          pHeuristic a1.1 ∧
                          (Q (mHeuristic a1.1))))))))))))))

def s_impl_Storable_1 (a0 : S) (a1 : Rsp) (Q : (Bool → Prop)) : Prop :=
  pCcHas a1.2.1 a0 ∧
  (Q (mCcHas a1.2.1 a0))

def s_impl_StoredOk (a0 : Sto) (Q : (Bool → Prop)) : Prop :=
  pUriOk a0.1 ∧
  ((mUriOk a0.1) = true →
    pResponseOk (a0.2.2.1, a0.2.2.2.1, a0.2.2.2.2.1) ∧
    ((mResponseOk (a0.2.2.1, a0.2.2.2.1, a0.2.2.2.2.1)) = true →
      pIn a0.2.2.2.2.2.1 0 2000000000 ∧
      ((mIn a0.2.2.2.2.2.1 0 2000000000) = true →
        pIn a0.2.2.2.2.2.2 a0.2.2.2.2.2.1 2000000000 ∧
        ((mIn a0.2.2.2.2.2.2 a0.2.2.2.2.2.1 2000000000) = true →
          (Q (decide ((a0.2.1.length : Int) ≤ 12)))) ∧
        (¬ ((mIn a0.2.2.2.2.2.2 a0.2.2.2.2.2.1 2000000000) = true) →
          (Q false))) ∧
      (¬ ((mIn a0.2.2.2.2.2.1 0 2000000000) = true) →
        (Q false))) ∧
    (¬ ((mResponseOk (a0.2.2.1, a0.2.2.2.1, a0.2.2.2.2.1)) = true) →
      (Q false))) ∧
  (¬ ((mUriOk a0.1) = true) →
    (Q false))

def s_impl_TagOf (a0 : Int) (Q : (S → Prop)) : Prop :=
  pIn a0 1 100000 ∧
  (¬ ((mIn a0 1 100000) = true) →
    (Q (lit []))) ∧
  (¬ (¬ ((mIn a0 1 100000) = true)) →
    pDec a0 ∧
    (lit [34, 118]).size + (mDec a0).size ≤ 9223372036854775807 ∧
    ((lit [34, 118]) ++ (mDec a0)).size + (lit [34]).size ≤ 9223372036854775807 ∧
    (Q (((lit [34, 118]) ++ (mDec a0)) ++ (lit [34]))))

def s_impl_Trim (a0 : S) (Q : (S → Prop)) : Prop :=
  pTrimL a0 (lit [32, 9]) ∧
  (Q (mTrimL a0 (lit [32, 9])))

def s_impl_UriOk (a0 : S) (Q : (Bool → Prop)) : Prop :=
  (∀ L0 : (Int → Prop),
    ((
        (∀ y1 : Int,
          ((
              (y1 < (a0.size : Int) →
                0 ≤ y1 ∧
                y1 < (a0.size : Int) ∧
                ((bt a0 y1) < 33 →
                  (Q false)) ∧
                (¬ ((bt a0 y1) < 33) →
                  0 ≤ y1 ∧
                  y1 < (a0.size : Int) ∧
                  (126 < (bt a0 y1) →
                    (Q false)) ∧
                  (¬ (126 < (bt a0 y1)) →
                    (L0 (IntKind.i64.wrap (y1 + 1)))))) ∧
              (¬ (y1 < (a0.size : Int)) →
                pIn (a0.size : Int) 1 20 ∧
                ((mIn (a0.size : Int) 1 20) = true →
                  (0 : Int) ≤ 0 ∧
                  0 < (a0.size : Int) ∧
                  (Q (decide ((bt a0 0) = 47)))) ∧
                (¬ ((mIn (a0.size : Int) 1 20) = true) →
                  (Q false)))
            ) →
            (L0 y1)))
      ) →
      (L0 0)))

def s_impl_VaryFits (a0 : Req) (a1 : Rsp) (a2 : (List Fld)) (Q : (Bool → Prop)) : Prop :=
  pPicked a0 a1 ∧
  pSameFields (mPicked a0 a1) a2 ∧
  (Q (mSameFields (mPicked a0 a1) a2))

def s_impl_VaryNames (a0 : Rsp) (Q : ((List S) → Prop)) : Prop :=
  pFieldGet a0.2.1 (lit [118, 97, 114, 121]) ∧
  pSplitList (mFieldGet a0.2.1 (lit [118, 97, 114, 121])).1 ∧
  (∀ L0 : (((List S) × Int) → Prop),
    ((
        (∀ y1 : ((List S) × Int),
          ((
              (y1.2 < ((mSplitList (mFieldGet a0.2.1 (lit [118, 97, 114, 121])).1).length : Int) →
                0 ≤ y1.2 ∧
                y1.2 < ((mSplitList (mFieldGet a0.2.1 (lit [118, 97, 114, 121])).1).length : Int) ∧
                pLower (rx (mSplitList (mFieldGet a0.2.1 (lit [118, 97, 114, 121])).1) y1.2) ∧
                pContains_string y1.1 (mLower (rx (mSplitList (mFieldGet a0.2.1 (lit [118, 97, 114, 121])).1) y1.2)) ∧
                (¬ ((mContains_string y1.1 (mLower (rx (mSplitList (mFieldGet a0.2.1 (lit [118, 97, 114, 121])).1) y1.2))) = true) →
                  (y1.1.length + [(mLower (rx (mSplitList (mFieldGet a0.2.1 (lit [118, 97, 114, 121])).1) y1.2))].length) * 16 ≤ 140737488355328 ∧
                  (L0 ((y1.1 ++ [(mLower (rx (mSplitList (mFieldGet a0.2.1 (lit [118, 97, 114, 121])).1) y1.2))]), (IntKind.i64.wrap (y1.2 + 1))))) ∧
                (¬ (¬ ((mContains_string y1.1 (mLower (rx (mSplitList (mFieldGet a0.2.1 (lit [118, 97, 114, 121])).1) y1.2))) = true)) →
                  (L0 (y1.1, (IntKind.i64.wrap (y1.2 + 1)))))) ∧
              (¬ (y1.2 < ((mSplitList (mFieldGet a0.2.1 (lit [118, 97, 114, 121])).1).length : Int)) →
                (Q y1.1))
            ) →
            (L0 y1)))
      ) →
      (L0 ([], 0))))

def s_impl_VersionIn (a0 : Rsp) (Q : (Int → Prop)) : Prop :=
  pFieldGet a0.2.1 (lit [101, 116, 97, 103]) ∧
  (((mFieldGet a0.2.1 (lit [101, 116, 97, 103])).1.size : Int) < 3 →
    (Q 0)) ∧
  (¬ (((mFieldGet a0.2.1 (lit [101, 116, 97, 103])).1.size : Int) < 3) →
    (0 : Int) ≤ 2 ∧
    2 ≤ (IntKind.i64.wrap (((mFieldGet a0.2.1 (lit [101, 116, 97, 103])).1.size : Int) - 1)) ∧
    (IntKind.i64.wrap (((mFieldGet a0.2.1 (lit [101, 116, 97, 103])).1.size : Int) - 1)) ≤ ((mFieldGet a0.2.1 (lit [101, 116, 97, 103])).1.size : Int) ∧
    pReadDec ((mFieldGet a0.2.1 (lit [101, 116, 97, 103])).1.extract ((2 : Int).toNat) (IntKind.i64.wrap (((mFieldGet a0.2.1 (lit [101, 116, 97, 103])).1.size : Int) - 1)).toNat) ∧
    (¬ ((mReadDec ((mFieldGet a0.2.1 (lit [101, 116, 97, 103])).1.extract ((2 : Int).toNat) (IntKind.i64.wrap (((mFieldGet a0.2.1 (lit [101, 116, 97, 103])).1.size : Int) - 1)).toNat)).2 = true) →
      (Q 0)) ∧
    (¬ (¬ ((mReadDec ((mFieldGet a0.2.1 (lit [101, 116, 97, 103])).1.extract ((2 : Int).toNat) (IntKind.i64.wrap (((mFieldGet a0.2.1 (lit [101, 116, 97, 103])).1.size : Int) - 1)).toNat)).2 = true)) →
      pTagOf (mReadDec ((mFieldGet a0.2.1 (lit [101, 116, 97, 103])).1.extract ((2 : Int).toNat) (IntKind.i64.wrap (((mFieldGet a0.2.1 (lit [101, 116, 97, 103])).1.size : Int) - 1)).toNat)).1 ∧
      ((mTagOf (mReadDec ((mFieldGet a0.2.1 (lit [101, 116, 97, 103])).1.extract ((2 : Int).toNat) (IntKind.i64.wrap (((mFieldGet a0.2.1 (lit [101, 116, 97, 103])).1.size : Int) - 1)).toNat)).1) ≠ (mFieldGet a0.2.1 (lit [101, 116, 97, 103])).1 →
        (Q 0)) ∧
      (¬ ((mTagOf (mReadDec ((mFieldGet a0.2.1 (lit [101, 116, 97, 103])).1.extract ((2 : Int).toNat) (IntKind.i64.wrap (((mFieldGet a0.2.1 (lit [101, 116, 97, 103])).1.size : Int) - 1)).toNat)).1) ≠ (mFieldGet a0.2.1 (lit [101, 116, 97, 103])).1) →
        (Q (mReadDec ((mFieldGet a0.2.1 (lit [101, 116, 97, 103])).1.extract ((2 : Int).toNat) (IntKind.i64.wrap (((mFieldGet a0.2.1 (lit [101, 116, 97, 103])).1.size : Int) - 1)).toNat)).1))))

def s_impl_bodies (a0 : (List Slt)) (Q : (Int → Prop)) : Prop :=
  (∀ L0 : ((Int × Int) → Prop),
    ((
        (∀ y1 : (Int × Int),
          ((
              (y1.2 < (a0.length : Int) →
                0 ≤ y1.2 ∧
                y1.2 < (a0.length : Int) ∧
                (L0 ((IntKind.i64.wrap (y1.1 + ((rx a0 y1.2).2.2.2.2.1.size : Int))), (IntKind.i64.wrap (y1.2 + 1))))) ∧
              (¬ (y1.2 < (a0.length : Int)) →
                (Q y1.1))
            ) →
            (L0 y1)))
      ) →
      (L0 (0, 0))))

def s_impl_bodiless (a0 : Int) (Q : (Bool → Prop)) : Prop :=
  (a0 = 204 →
    (Q true)) ∧
  (¬ (a0 = 204) →
    (Q (decide (a0 = 304))))

def s_impl_bodyFields (a0 : (List Fld)) (Q : (Bool → Prop)) : Prop :=
  pHasField a0 (lit [99, 111, 110, 116, 101, 110, 116, 45, 108, 101, 110, 103, 116, 104]) ∧
  ((mHasField a0 (lit [99, 111, 110, 116, 101, 110, 116, 45, 108, 101, 110, 103, 116, 104])) = true →
    (Q true)) ∧
  (¬ ((mHasField a0 (lit [99, 111, 110, 116, 101, 110, 116, 45, 108, 101, 110, 103, 116, 104])) = true) →
    pHasField a0 (lit [116, 114, 97, 110, 115, 102, 101, 114, 45, 101, 110, 99, 111, 100, 105, 110, 103]) ∧
    (Q (mHasField a0 (lit [116, 114, 97, 110, 115, 102, 101, 114, 45, 101, 110, 99, 111, 100, 105, 110, 103]))))

def s_impl_commas (a0 : S) (Q : ((List Int) → Prop)) : Prop :=
  (∀ L0 : (((List Int) × (Bool × Int)) → Prop),
    ((
        (∀ y1 : ((List Int) × (Bool × Int)),
          ((
              (y1.2.2 < (a0.size : Int) →
                0 ≤ y1.2.2 ∧
                y1.2.2 < (a0.size : Int) ∧
                ((bt a0 y1.2.2) = 34 →
                  (L0 (y1.1, (decide (¬ (y1.2.1 = true))), (IntKind.i64.wrap (y1.2.2 + 1))))) ∧
                (¬ ((bt a0 y1.2.2) = 34) →
                  (y1.2.1 = true →
                    0 ≤ y1.2.2 ∧
                    y1.2.2 < (a0.size : Int) ∧
                    ((bt a0 y1.2.2) = 92 →
                      (L0 (y1.1, y1.2.1, (IntKind.i64.wrap ((IntKind.i64.wrap (y1.2.2 + 1)) + 1))))) ∧
                    (¬ ((bt a0 y1.2.2) = 92) →
                      (¬ (y1.2.1 = true) →
                        0 ≤ y1.2.2 ∧
                        y1.2.2 < (a0.size : Int) ∧
                        ((bt a0 y1.2.2) = 44 →
                          (y1.1.length + [y1.2.2].length) * 8 ≤ 140737488355328 ∧
                          (L0 ((y1.1 ++ [y1.2.2]), y1.2.1, (IntKind.i64.wrap (y1.2.2 + 1))))) ∧
                        (¬ ((bt a0 y1.2.2) = 44) →
                          (L0 (y1.1, y1.2.1, (IntKind.i64.wrap (y1.2.2 + 1)))))) ∧
                      (¬ (¬ (y1.2.1 = true)) →
                        (L0 (y1.1, y1.2.1, (IntKind.i64.wrap (y1.2.2 + 1))))))) ∧
                  (¬ (y1.2.1 = true) →
                    (¬ (y1.2.1 = true) →
                      0 ≤ y1.2.2 ∧
                      y1.2.2 < (a0.size : Int) ∧
                      ((bt a0 y1.2.2) = 44 →
                        (y1.1.length + [y1.2.2].length) * 8 ≤ 140737488355328 ∧
                        (L0 ((y1.1 ++ [y1.2.2]), y1.2.1, (IntKind.i64.wrap (y1.2.2 + 1))))) ∧
                      (¬ ((bt a0 y1.2.2) = 44) →
                        (L0 (y1.1, y1.2.1, (IntKind.i64.wrap (y1.2.2 + 1)))))) ∧
                    (¬ (¬ (y1.2.1 = true)) →
                      (L0 (y1.1, y1.2.1, (IntKind.i64.wrap (y1.2.2 + 1)))))))) ∧
              (¬ (y1.2.2 < (a0.size : Int)) →
                (Q y1.1))
            ) →
            (L0 y1)))
      ) →
      (L0 ([], false, 0))))

def s_impl_fieldOk (a0 : Fld) (Q : (Bool → Prop)) : Prop :=
  pIsTokenText a0.1 ∧
  ((mIsTokenText a0.1) = true →
    ((a0.1.size : Int) ≤ 24 →
      pLower a0.1 ∧
      ((mLower a0.1) = a0.1 →
        pIsValueText a0.2 ∧
        ((mIsValueText a0.2) = true →
          (Q (decide ((a0.2.size : Int) ≤ 60)))) ∧
        (¬ ((mIsValueText a0.2) = true) →
          (Q false))) ∧
      (¬ ((mLower a0.1) = a0.1) →
        (Q false))) ∧
    (¬ ((a0.1.size : Int) ≤ 24) →
      (Q false))) ∧
  (¬ ((mIsTokenText a0.1) = true) →
    (Q false))

def s_impl_hasField (a0 : (List Fld)) (a1 : S) (Q : (Bool → Prop)) : Prop :=
  pFieldGet a0 a1 ∧
  (Q (mFieldGet a0 a1).2)

def s_impl_in (a0 : Int) (a1 : Int) (a2 : Int) (Q : (Bool → Prop)) : Prop :=
  (a1 ≤ a0 →
    (Q (decide (a0 ≤ a2)))) ∧
  (¬ (a1 ≤ a0) →
    (Q false))

def s_impl_isLetterOrDigit (a0 : Int) (Q : (Bool → Prop)) : Prop :=
  (97 ≤ a0 →
    (a0 ≤ 122 →
      (Q true)) ∧
    (¬ (a0 ≤ 122) →
      (65 ≤ a0 →
        (a0 ≤ 90 →
          (Q true)) ∧
        (¬ (a0 ≤ 90) →
          (48 ≤ a0 →
            (Q (decide (a0 ≤ 57)))) ∧
          (¬ (48 ≤ a0) →
            (Q false)))) ∧
      (¬ (65 ≤ a0) →
        (48 ≤ a0 →
          (Q (decide (a0 ≤ 57)))) ∧
        (¬ (48 ≤ a0) →
          (Q false))))) ∧
  (¬ (97 ≤ a0) →
    (65 ≤ a0 →
      (a0 ≤ 90 →
        (Q true)) ∧
      (¬ (a0 ≤ 90) →
        (48 ≤ a0 →
          (Q (decide (a0 ≤ 57)))) ∧
        (¬ (48 ≤ a0) →
          (Q false)))) ∧
    (¬ (65 ≤ a0) →
      (48 ≤ a0 →
        (Q (decide (a0 ≤ 57)))) ∧
      (¬ (48 ≤ a0) →
        (Q false))))

def s_impl_itsOwn (a0 : Req) (Q : (Bool → Prop)) : Prop :=
  (a0.1 ≠ (lit [71, 69, 84]) →
    (Q true)) ∧
  (¬ (a0.1 ≠ (lit [71, 69, 84])) →
    pHasField a0.2.2.1 (lit [97, 117, 116, 104, 111, 114, 105, 122, 97, 116, 105, 111, 110]) ∧
    ((mHasField a0.2.2.1 (lit [97, 117, 116, 104, 111, 114, 105, 122, 97, 116, 105, 111, 110])) = true →
      (Q true)) ∧
    (¬ ((mHasField a0.2.2.1 (lit [97, 117, 116, 104, 111, 114, 105, 122, 97, 116, 105, 111, 110])) = true) →
      pHasField a0.2.2.1 (lit [105, 102, 45, 110, 111, 110, 101, 45, 109, 97, 116, 99, 104]) ∧
      ((mHasField a0.2.2.1 (lit [105, 102, 45, 110, 111, 110, 101, 45, 109, 97, 116, 99, 104])) = true →
        (Q true)) ∧
      (¬ ((mHasField a0.2.2.1 (lit [105, 102, 45, 110, 111, 110, 101, 45, 109, 97, 116, 99, 104])) = true) →
        pHasField a0.2.2.1 (lit [105, 102, 45, 109, 111, 100, 105, 102, 105, 101, 100, 45, 115, 105, 110, 99, 101]) ∧
        ((mHasField a0.2.2.1 (lit [105, 102, 45, 109, 111, 100, 105, 102, 105, 101, 100, 45, 115, 105, 110, 99, 101])) = true →
          (Q true)) ∧
        (¬ ((mHasField a0.2.2.1 (lit [105, 102, 45, 109, 111, 100, 105, 102, 105, 101, 100, 45, 115, 105, 110, 99, 101])) = true) →
          pCcHas a0.2.2.1 (lit [110, 111, 45, 115, 116, 111, 114, 101]) ∧
          ((mCcHas a0.2.2.1 (lit [110, 111, 45, 115, 116, 111, 114, 101])) = true →
            (Q true)) ∧
          (¬ ((mCcHas a0.2.2.1 (lit [110, 111, 45, 115, 116, 111, 114, 101])) = true) →
            pCcHas a0.2.2.1 (lit [110, 111, 45, 99, 97, 99, 104, 101]) ∧
            (Q (mCcHas a0.2.2.1 (lit [110, 111, 45, 99, 97, 99, 104, 101]))))))))

def s_impl_ownFields (a0 : (List Fld)) (Q : (Bool → Prop)) : Prop :=
  pFieldsOk a0 ∧
  ((mFieldsOk a0) = true →
    ((a0.length : Int) < 12 →
      pBodyFields a0 ∧
      (Q (decide (¬ ((mBodyFields a0) = true))))) ∧
    (¬ ((a0.length : Int) < 12) →
      (Q false))) ∧
  (¬ ((mFieldsOk a0) = true) →
    (Q false))

def s_impl_shardSizes (a0 : Int) (a1 : Int) (Q : (Bool → Prop)) : Prop :=
  pIn a0 1 8 ∧
  ((mIn a0 1 8) = true →
    pIn a1 0 500 ∧
    (Q (mIn a1 0 500))) ∧
  (¬ ((mIn a0 1 8) = true) →
    (Q false))

def s_impl_standAlike (a0 : Sto) (a1 : Sto) (Q : (Bool → Prop)) : Prop :=
  (a0.1 = a1.1 →
    pSameFields a0.2.1 a1.2.1 ∧
    (Q (mSameFields a0.2.1 a1.2.1))) ∧
  (¬ (a0.1 = a1.1) →
    (Q false))

def s_laws_FnExactAllDone (a0 : (Int × (Int × ((List (Int × (S × (Int × (S × (S × ((List Fld) × (S × (S × (S × ((List Fld) × (S × (S × ((List Fld) × (Int × ((List Fld) × (S × (Int × (Int × (Bool × (Int × (Int × (Int × (Int × (Bool × (Int × ((List Fld) × (S × (List (Int × Rsp)))))))))))))))))))))))))))))) × ((List Shd) × ((List Gen) × ((List Flt) × ((List Rsc) × (List Evt))))))))) (Q : (Bool → Prop)) : Prop :=
  pSz a0 1048576 ∧
  ((szF a0 1048576) < 0 →
    (Q true)) ∧
  (¬ ((szF a0 1048576) < 0) →
    pTo a0 ∧
    pAllDone (toF a0) ∧
    pTo a0 ∧
    pAllDone (toF a0) ∧
    ((mAllDone (toF a0)) ≠ (mAllDone (toF a0)) →
      (Q false)) ∧
    (¬ ((mAllDone (toF a0)) ≠ (mAllDone (toF a0))) →
      pTo a0 ∧
      pEq (toF a0) (toF a0) ∧
      (¬ ((eqF (toF a0) (toF a0)) = true) →
        (Q false)) ∧
      (¬ (¬ ((eqF (toF a0) (toF a0)) = true)) →
        (Q true))))

def s_laws_FnExactBlocked (a0 : (Int × (Int × ((List (Int × (S × (Int × (S × (S × ((List Fld) × (S × (S × (S × ((List Fld) × (S × (S × ((List Fld) × (Int × ((List Fld) × (S × (Int × (Int × (Bool × (Int × (Int × (Int × (Int × (Bool × (Int × ((List Fld) × (S × (List (Int × Rsp)))))))))))))))))))))))))))))) × ((List Shd) × ((List Gen) × ((List Flt) × ((List Rsc) × (List Evt))))))))) (a1 : Int) (Q : (Bool → Prop)) : Prop :=
  pSz a0 1048576 ∧
  ((szF a0 1048576) < 0 →
    (Q true)) ∧
  (¬ ((szF a0 1048576) < 0) →
    pTo a0 ∧
    pBlocked (toF a0) a1 ∧
    pTo a0 ∧
    pBlocked (toF a0) a1 ∧
    ((mBlocked (toF a0) a1) ≠ (mBlocked (toF a0) a1) →
      (Q false)) ∧
    (¬ ((mBlocked (toF a0) a1) ≠ (mBlocked (toF a0) a1)) →
      pTo a0 ∧
      pEq (toF a0) (toF a0) ∧
      (¬ ((eqF (toF a0) (toF a0)) = true) →
        (Q false)) ∧
      (¬ (¬ ((eqF (toF a0) (toF a0)) = true)) →
        (Q true))))

def s_slices_Contains_string (a0 : (List S)) (a1 : S) (Q : (Bool → Prop)) : Prop :=
  pIndex_string a0 a1 ∧
  (Q (decide (0 ≤ (mIndex_string a0 a1))))

def s_slices_Equal_Field (a0 : (List Fld)) (a1 : (List Fld)) (Q : (Bool → Prop)) : Prop :=
  ((a0.length : Int) ≠ (a1.length : Int) →
    (Q false)) ∧
  (¬ ((a0.length : Int) ≠ (a1.length : Int)) →
    (∀ L0 : (Int → Prop),
      ((
          (∀ y1 : Int,
            ((
                (y1 < (a0.length : Int) →
                  0 ≤ y1 ∧
                  y1 < (a0.length : Int) ∧
                  0 ≤ y1 ∧
                  y1 < (a1.length : Int) ∧
                  (¬ ((rx a0 y1) = (rx a1 y1)) →
                    (Q false)) ∧
                  (¬ (¬ ((rx a0 y1) = (rx a1 y1))) →
                    (L0 (IntKind.i64.wrap (y1 + 1))))) ∧
                (¬ (y1 < (a0.length : Int)) →
                  (Q true))
              ) →
              (L0 y1)))
        ) →
        (L0 0))))

def s_slices_Index_string (a0 : (List S)) (a1 : S) (Q : (Int → Prop)) : Prop :=
  (∀ L0 : (Int → Prop),
    ((
        (∀ y1 : Int,
          ((
              (y1 < (a0.length : Int) →
                0 ≤ y1 ∧
                y1 < (a0.length : Int) ∧
                (a1 = (rx a0 y1) →
                  (Q y1)) ∧
                (¬ (a1 = (rx a0 y1)) →
                  (L0 (IntKind.i64.wrap (y1 + 1))))) ∧
              (¬ (y1 < (a0.length : Int)) →
                (Q (-1)))
            ) →
            (L0 y1)))
      ) →
      (L0 0)))

def s_spec_AllDone (a0 : (Int × (Int × ((List (Int × (S × (Int × (S × (S × ((List Fld) × (S × (S × (S × ((List Fld) × (S × (S × ((List Fld) × (Int × ((List Fld) × (S × (Int × (Int × (Bool × (Int × (Int × (Int × (Int × (Bool × (Int × ((List Fld) × (S × (List (Int × Rsp)))))))))))))))))))))))))))))) × ((List Shd) × ((List Gen) × ((List Flt) × ((List Rsc) × (List Evt))))))))) (Q : (Bool → Prop)) : Prop :=
  (∀ L0 : (Int → Prop),
    ((
        (∀ y1 : Int,
          ((
              (y1 < (a0.2.2.1.length : Int) →
                0 ≤ y1 ∧
                y1 < (a0.2.2.1.length : Int) ∧
                ((rx a0.2.2.1 y1).1 ≠ 7 →
                  (Q false)) ∧
                (¬ ((rx a0.2.2.1 y1).1 ≠ 7) →
                  (L0 (IntKind.i64.wrap (y1 + 1))))) ∧
              (¬ (y1 < (a0.2.2.1.length : Int)) →
                (Q true))
            ) →
            (L0 y1)))
      ) →
      (L0 0)))

def s_spec_Blocked (a0 : (Int × (Int × ((List (Int × (S × (Int × (S × (S × ((List Fld) × (S × (S × (S × ((List Fld) × (S × (S × ((List Fld) × (Int × ((List Fld) × (S × (Int × (Int × (Bool × (Int × (Int × (Int × (Int × (Bool × (Int × ((List Fld) × (S × (List (Int × Rsp)))))))))))))))))))))))))))))) × ((List Shd) × ((List Gen) × ((List Flt) × ((List Rsc) × (List Evt))))))))) (a1 : Int) (Q : (Bool → Prop)) : Prop :=
  pIn a1 0 (IntKind.i64.wrap ((a0.2.2.1.length : Int) - 1)) ∧
  (¬ ((mIn a1 0 (IntKind.i64.wrap ((a0.2.2.1.length : Int) - 1))) = true) →
    (Q true)) ∧
  (¬ (¬ ((mIn a1 0 (IntKind.i64.wrap ((a0.2.2.1.length : Int) - 1))) = true)) →
    0 ≤ a1 ∧
    a1 < (a0.2.2.1.length : Int) ∧
    ((rx a0.2.2.1 a1).1 = 7 →
      (Q true)) ∧
    (¬ ((rx a0.2.2.1 a1).1 = 7) →
      ((rx a0.2.2.1 a1).1 = 5 →
        pIn (rx a0.2.2.1 a1).2.2.2.2.2.2.2.2.2.2.2.2.2.2.2.2.2.2.2.1 0 (IntKind.i64.wrap ((a0.2.2.2.2.2.1.length : Int) - 1)) ∧
        ((mIn (rx a0.2.2.1 a1).2.2.2.2.2.2.2.2.2.2.2.2.2.2.2.2.2.2.2.1 0 (IntKind.i64.wrap ((a0.2.2.2.2.2.1.length : Int) - 1))) = true →
          0 ≤ (rx a0.2.2.1 a1).2.2.2.2.2.2.2.2.2.2.2.2.2.2.2.2.2.2.2.1 ∧
          (rx a0.2.2.1 a1).2.2.2.2.2.2.2.2.2.2.2.2.2.2.2.2.2.2.2.1 < (a0.2.2.2.2.2.1.length : Int) ∧
          (Q (rx a0.2.2.2.2.2.1 (rx a0.2.2.1 a1).2.2.2.2.2.2.2.2.2.2.2.2.2.2.2.2.2.2.2.1).2.1)) ∧
        (¬ ((mIn (rx a0.2.2.1 a1).2.2.2.2.2.2.2.2.2.2.2.2.2.2.2.2.2.2.2.1 0 (IntKind.i64.wrap ((a0.2.2.2.2.2.1.length : Int) - 1))) = true) →
          (Q false))) ∧
      (¬ ((rx a0.2.2.1 a1).1 = 5) →
        (Q false))))

def s_spec_CcHas (a0 : (List Fld)) (a1 : S) (Q : (Bool → Prop)) : Prop :=
  pDirectives a0 ∧
  (∀ L0 : (Int → Prop),
    ((
        (∀ y1 : Int,
          ((
              (y1 < ((mDirectives a0).length : Int) →
                0 ≤ y1 ∧
                y1 < ((mDirectives a0).length : Int) ∧
                ((rx (mDirectives a0) y1).1 = a1 →
                  (Q true)) ∧
                (¬ ((rx (mDirectives a0) y1).1 = a1) →
                  (L0 (IntKind.i64.wrap (y1 + 1))))) ∧
              (¬ (y1 < ((mDirectives a0).length : Int)) →
                (Q false))
            ) →
            (L0 y1)))
      ) →
      (L0 0)))

def s_spec_Dec (a0 : Int) (Q : (S → Prop)) : Prop :=
  (a0 = 0 →
    (Q (lit [48]))) ∧
  (¬ (a0 = 0) →
    (∀ L0 : ((Int × S) → Prop),
      ((
          (∀ y1 : (Int × S),
            ((
                (y1.1 ≠ 0 →
                  (10 : Int) ≠ 0 ∧
                  ((y1.1.tmod 10) < 0 →
                    (strOf [(IntKind.u8.wrap (IntKind.i64.wrap (48 + (IntKind.i64.wrap (0 - (y1.1.tmod 10))))))]).size + y1.2.size ≤ 9223372036854775807 ∧
                    (10 : Int) ≠ 0 ∧
                    (L0 ((IntKind.i64.wrap (y1.1.tdiv 10)), ((strOf [(IntKind.u8.wrap (IntKind.i64.wrap (48 + (IntKind.i64.wrap (0 - (y1.1.tmod 10))))))]) ++ y1.2)))) ∧
                  (¬ ((y1.1.tmod 10) < 0) →
                    (strOf [(IntKind.u8.wrap (IntKind.i64.wrap (48 + (y1.1.tmod 10))))]).size + y1.2.size ≤ 9223372036854775807 ∧
                    (10 : Int) ≠ 0 ∧
                    (L0 ((IntKind.i64.wrap (y1.1.tdiv 10)), ((strOf [(IntKind.u8.wrap (IntKind.i64.wrap (48 + (y1.1.tmod 10))))]) ++ y1.2))))) ∧
                (¬ (y1.1 ≠ 0) →
                  (a0 < 0 →
                    (lit [45]).size + y1.2.size ≤ 9223372036854775807 ∧
                    (Q ((lit [45]) ++ y1.2))) ∧
                  (¬ (a0 < 0) →
                    (Q y1.2)))
              ) →
              (L0 y1)))
        ) →
        (L0 (a0, (lit []))))))

def s_spec_Directives (a0 : (List Fld)) (Q : ((List Fld) → Prop)) : Prop :=
  pFieldGet a0 (lit [99, 97, 99, 104, 101, 45, 99, 111, 110, 116, 114, 111, 108]) ∧
  pSplitList (mFieldGet a0 (lit [99, 97, 99, 104, 101, 45, 99, 111, 110, 116, 114, 111, 108])).1 ∧
  (∀ L0 : (((List Fld) × Int) → Prop),
    ((
        (∀ y1 : ((List Fld) × Int),
          ((
              (y1.2 < ((mSplitList (mFieldGet a0 (lit [99, 97, 99, 104, 101, 45, 99, 111, 110, 116, 114, 111, 108])).1).length : Int) →
                0 ≤ y1.2 ∧
                y1.2 < ((mSplitList (mFieldGet a0 (lit [99, 97, 99, 104, 101, 45, 99, 111, 110, 116, 114, 111, 108])).1).length : Int) ∧
                (∀ L2 : (Int → Prop),
                  ((
                      (∀ y3 : Int,
                        ((
                            (y3 < ((rx (mSplitList (mFieldGet a0 (lit [99, 97, 99, 104, 101, 45, 99, 111, 110, 116, 114, 111, 108])).1) y1.2).size : Int) →
                              0 ≤ y3 ∧
                              y3 < ((rx (mSplitList (mFieldGet a0 (lit [99, 97, 99, 104, 101, 45, 99, 111, 110, 116, 114, 111, 108])).1) y1.2).size : Int) ∧
                              ((bt (rx (mSplitList (mFieldGet a0 (lit [99, 97, 99, 104, 101, 45, 99, 111, 110, 116, 114, 111, 108])).1) y1.2) y3) ≠ 61 →
                                (L2 (IntKind.i64.wrap (y3 + 1)))) ∧
                              (¬ ((bt (rx (mSplitList (mFieldGet a0 (lit [99, 97, 99, 104, 101, 45, 99, 111, 110, 116, 114, 111, 108])).1) y1.2) y3) ≠ 61) →
                                0 ≤ y3 ∧
                                y3 ≤ ((rx (mSplitList (mFieldGet a0 (lit [99, 97, 99, 104, 101, 45, 99, 111, 110, 116, 114, 111, 108])).1) y1.2).size : Int) ∧
                                pIsTokenText ((rx (mSplitList (mFieldGet a0 (lit [99, 97, 99, 104, 101, 45, 99, 111, 110, 116, 114, 111, 108])).1) y1.2).extract 0 y3.toNat) ∧
                                (¬ ((mIsTokenText ((rx (mSplitList (mFieldGet a0 (lit [99, 97, 99, 104, 101, 45, 99, 111, 110, 116, 114, 111, 108])).1) y1.2).extract 0 y3.toNat)) = true) →
                                  (L0 (y1.1, (IntKind.i64.wrap (y1.2 + 1))))) ∧
                                (¬ (¬ ((mIsTokenText ((rx (mSplitList (mFieldGet a0 (lit [99, 97, 99, 104, 101, 45, 99, 111, 110, 116, 114, 111, 108])).1) y1.2).extract 0 y3.toNat)) = true)) →
                                  0 ≤ y3 ∧
                                  y3 ≤ ((rx (mSplitList (mFieldGet a0 (lit [99, 97, 99, 104, 101, 45, 99, 111, 110, 116, 114, 111, 108])).1) y1.2).size : Int) ∧
                                  pLower ((rx (mSplitList (mFieldGet a0 (lit [99, 97, 99, 104, 101, 45, 99, 111, 110, 116, 114, 111, 108])).1) y1.2).extract 0 y3.toNat) ∧
                                  (y3 < ((rx (mSplitList (mFieldGet a0 (lit [99, 97, 99, 104, 101, 45, 99, 111, 110, 116, 114, 111, 108])).1) y1.2).size : Int) →
                                    0 ≤ (IntKind.i64.wrap (y3 + 1)) ∧
                                    (IntKind.i64.wrap (y3 + 1)) ≤ ((rx (mSplitList (mFieldGet a0 (lit [99, 97, 99, 104, 101, 45, 99, 111, 110, 116, 114, 111, 108])).1) y1.2).size : Int) ∧
                                    pL7Unquote ((rx (mSplitList (mFieldGet a0 (lit [99, 97, 99, 104, 101, 45, 99, 111, 110, 116, 114, 111, 108])).1) y1.2).extract (IntKind.i64.wrap (y3 + 1)).toNat (rx (mSplitList (mFieldGet a0 (lit [99, 97, 99, 104, 101, 45, 99, 111, 110, 116, 114, 111, 108])).1) y1.2).size) ∧
                                    (y1.1.length + [((mLower ((rx (mSplitList (mFieldGet a0 (lit [99, 97, 99, 104, 101, 45, 99, 111, 110, 116, 114, 111, 108])).1) y1.2).extract 0 y3.toNat)), (mL7Unquote ((rx (mSplitList (mFieldGet a0 (lit [99, 97, 99, 104, 101, 45, 99, 111, 110, 116, 114, 111, 108])).1) y1.2).extract (IntKind.i64.wrap (y3 + 1)).toNat (rx (mSplitList (mFieldGet a0 (lit [99, 97, 99, 104, 101, 45, 99, 111, 110, 116, 114, 111, 108])).1) y1.2).size)))].length) * 32 ≤ 140737488355328 ∧
                                    (L0 ((y1.1 ++ [((mLower ((rx (mSplitList (mFieldGet a0 (lit [99, 97, 99, 104, 101, 45, 99, 111, 110, 116, 114, 111, 108])).1) y1.2).extract 0 y3.toNat)), (mL7Unquote ((rx (mSplitList (mFieldGet a0 (lit [99, 97, 99, 104, 101, 45, 99, 111, 110, 116, 114, 111, 108])).1) y1.2).extract (IntKind.i64.wrap (y3 + 1)).toNat (rx (mSplitList (mFieldGet a0 (lit [99, 97, 99, 104, 101, 45, 99, 111, 110, 116, 114, 111, 108])).1) y1.2).size)))]), (IntKind.i64.wrap (y1.2 + 1))))) ∧
                                  (¬ (y3 < ((rx (mSplitList (mFieldGet a0 (lit [99, 97, 99, 104, 101, 45, 99, 111, 110, 116, 114, 111, 108])).1) y1.2).size : Int)) →
                                    (y1.1.length + [((mLower ((rx (mSplitList (mFieldGet a0 (lit [99, 97, 99, 104, 101, 45, 99, 111, 110, 116, 114, 111, 108])).1) y1.2).extract 0 y3.toNat)), (lit []))].length) * 32 ≤ 140737488355328 ∧
                                    (L0 ((y1.1 ++ [((mLower ((rx (mSplitList (mFieldGet a0 (lit [99, 97, 99, 104, 101, 45, 99, 111, 110, 116, 114, 111, 108])).1) y1.2).extract 0 y3.toNat)), (lit []))]), (IntKind.i64.wrap (y1.2 + 1)))))))) ∧
                            (¬ (y3 < ((rx (mSplitList (mFieldGet a0 (lit [99, 97, 99, 104, 101, 45, 99, 111, 110, 116, 114, 111, 108])).1) y1.2).size : Int)) →
                              0 ≤ y3 ∧
                              y3 ≤ ((rx (mSplitList (mFieldGet a0 (lit [99, 97, 99, 104, 101, 45, 99, 111, 110, 116, 114, 111, 108])).1) y1.2).size : Int) ∧
                              pIsTokenText ((rx (mSplitList (mFieldGet a0 (lit [99, 97, 99, 104, 101, 45, 99, 111, 110, 116, 114, 111, 108])).1) y1.2).extract 0 y3.toNat) ∧
                              (¬ ((mIsTokenText ((rx (mSplitList (mFieldGet a0 (lit [99, 97, 99, 104, 101, 45, 99, 111, 110, 116, 114, 111, 108])).1) y1.2).extract 0 y3.toNat)) = true) →
                                (L0 (y1.1, (IntKind.i64.wrap (y1.2 + 1))))) ∧
                              (¬ (¬ ((mIsTokenText ((rx (mSplitList (mFieldGet a0 (lit [99, 97, 99, 104, 101, 45, 99, 111, 110, 116, 114, 111, 108])).1) y1.2).extract 0 y3.toNat)) = true)) →
                                0 ≤ y3 ∧
                                y3 ≤ ((rx (mSplitList (mFieldGet a0 (lit [99, 97, 99, 104, 101, 45, 99, 111, 110, 116, 114, 111, 108])).1) y1.2).size : Int) ∧
                                pLower ((rx (mSplitList (mFieldGet a0 (lit [99, 97, 99, 104, 101, 45, 99, 111, 110, 116, 114, 111, 108])).1) y1.2).extract 0 y3.toNat) ∧
                                (y3 < ((rx (mSplitList (mFieldGet a0 (lit [99, 97, 99, 104, 101, 45, 99, 111, 110, 116, 114, 111, 108])).1) y1.2).size : Int) →
                                  0 ≤ (IntKind.i64.wrap (y3 + 1)) ∧
                                  (IntKind.i64.wrap (y3 + 1)) ≤ ((rx (mSplitList (mFieldGet a0 (lit [99, 97, 99, 104, 101, 45, 99, 111, 110, 116, 114, 111, 108])).1) y1.2).size : Int) ∧
                                  pL7Unquote ((rx (mSplitList (mFieldGet a0 (lit [99, 97, 99, 104, 101, 45, 99, 111, 110, 116, 114, 111, 108])).1) y1.2).extract (IntKind.i64.wrap (y3 + 1)).toNat (rx (mSplitList (mFieldGet a0 (lit [99, 97, 99, 104, 101, 45, 99, 111, 110, 116, 114, 111, 108])).1) y1.2).size) ∧
                                  (y1.1.length + [((mLower ((rx (mSplitList (mFieldGet a0 (lit [99, 97, 99, 104, 101, 45, 99, 111, 110, 116, 114, 111, 108])).1) y1.2).extract 0 y3.toNat)), (mL7Unquote ((rx (mSplitList (mFieldGet a0 (lit [99, 97, 99, 104, 101, 45, 99, 111, 110, 116, 114, 111, 108])).1) y1.2).extract (IntKind.i64.wrap (y3 + 1)).toNat (rx (mSplitList (mFieldGet a0 (lit [99, 97, 99, 104, 101, 45, 99, 111, 110, 116, 114, 111, 108])).1) y1.2).size)))].length) * 32 ≤ 140737488355328 ∧
                                  (L0 ((y1.1 ++ [((mLower ((rx (mSplitList (mFieldGet a0 (lit [99, 97, 99, 104, 101, 45, 99, 111, 110, 116, 114, 111, 108])).1) y1.2).extract 0 y3.toNat)), (mL7Unquote ((rx (mSplitList (mFieldGet a0 (lit [99, 97, 99, 104, 101, 45, 99, 111, 110, 116, 114, 111, 108])).1) y1.2).extract (IntKind.i64.wrap (y3 + 1)).toNat (rx (mSplitList (mFieldGet a0 (lit [99, 97, 99, 104, 101, 45, 99, 111, 110, 116, 114, 111, 108])).1) y1.2).size)))]), (IntKind.i64.wrap (y1.2 + 1))))) ∧
                                (¬ (y3 < ((rx (mSplitList (mFieldGet a0 (lit [99, 97, 99, 104, 101, 45, 99, 111, 110, 116, 114, 111, 108])).1) y1.2).size : Int)) →
                                  (y1.1.length + [((mLower ((rx (mSplitList (mFieldGet a0 (lit [99, 97, 99, 104, 101, 45, 99, 111, 110, 116, 114, 111, 108])).1) y1.2).extract 0 y3.toNat)), (lit []))].length) * 32 ≤ 140737488355328 ∧
                                  (L0 ((y1.1 ++ [((mLower ((rx (mSplitList (mFieldGet a0 (lit [99, 97, 99, 104, 101, 45, 99, 111, 110, 116, 114, 111, 108])).1) y1.2).extract 0 y3.toNat)), (lit []))]), (IntKind.i64.wrap (y1.2 + 1)))))))
                          ) →
                          (L2 y3)))
                    ) →
                    (L2 0)))) ∧
              (¬ (y1.2 < ((mSplitList (mFieldGet a0 (lit [99, 97, 99, 104, 101, 45, 99, 111, 110, 116, 114, 111, 108])).1).length : Int)) →
                (Q y1.1))
            ) →
            (L0 y1)))
      ) →
      (L0 ([], 0))))

def s_spec_FieldGet (a0 : (List Fld)) (a1 : S) (Q : ((S × Bool) → Prop)) : Prop :=
  (∀ L0 : ((S × (Bool × Int)) → Prop),
    ((
        (∀ y1 : (S × (Bool × Int)),
          ((
              (y1.2.2 < (a0.length : Int) →
                0 ≤ y1.2.2 ∧
                y1.2.2 < (a0.length : Int) ∧
                ((rx a0 y1.2.2).1 ≠ a1 →
                  (L0 (y1.1, y1.2.1, (IntKind.i64.wrap (y1.2.2 + 1))))) ∧
                (¬ ((rx a0 y1.2.2).1 ≠ a1) →
                  (y1.2.1 = true →
                    y1.1.size + (lit [44, 32]).size ≤ 9223372036854775807 ∧
                    0 ≤ y1.2.2 ∧
                    y1.2.2 < (a0.length : Int) ∧
                    (y1.1 ++ (lit [44, 32])).size + (rx a0 y1.2.2).2.size ≤ 9223372036854775807 ∧
                    (L0 (((y1.1 ++ (lit [44, 32])) ++ (rx a0 y1.2.2).2), true, (IntKind.i64.wrap (y1.2.2 + 1))))) ∧
                  (¬ (y1.2.1 = true) →
                    0 ≤ y1.2.2 ∧
                    y1.2.2 < (a0.length : Int) ∧
                    y1.1.size + (rx a0 y1.2.2).2.size ≤ 9223372036854775807 ∧
                    (L0 ((y1.1 ++ (rx a0 y1.2.2).2), true, (IntKind.i64.wrap (y1.2.2 + 1))))))) ∧
              (¬ (y1.2.2 < (a0.length : Int)) →
                (Q (y1.1, y1.2.1)))
            ) →
            (L0 y1)))
      ) →
      (L0 ((lit []), false, 0))))

def s_spec_FieldsOk (a0 : (List Fld)) (Q : (Bool → Prop)) : Prop :=
  (∀ L0 : (Int → Prop),
    ((
        (∀ y1 : Int,
          ((
              (y1 < (a0.length : Int) →
                0 ≤ y1 ∧
                y1 < (a0.length : Int) ∧
                pFieldOk (rx a0 y1) ∧
                (¬ ((mFieldOk (rx a0 y1)) = true) →
                  (Q false)) ∧
                (¬ (¬ ((mFieldOk (rx a0 y1)) = true)) →
                  (L0 (IntKind.i64.wrap (y1 + 1))))) ∧
              (¬ (y1 < (a0.length : Int)) →
                (Q (decide ((a0.length : Int) ≤ 12))))
            ) →
            (L0 y1)))
      ) →
      (L0 0)))

def s_spec_Filled (a0 : Shd) (Q : (Int → Prop)) : Prop :=
  pShardOk a0 ∧
  (¬ ((mShardOk a0) = true) →
    (Q 0)) ∧
  (¬ (¬ ((mShardOk a0) = true)) →
    pFilledS a0 ∧
    (Q (mFilledS a0)))

def s_spec_Heuristic (a0 : Int) (Q : (Bool → Prop)) : Prop :=
  pL4Has [200, 203, 204, 300, 301, 404, 410] a0 ∧
  (Q (mL4Has [200, 203, 204, 300, 301, 404, 410] a0))

def s_spec_IsTokenText (a0 : S) (Q : (Bool → Prop)) : Prop :=
  (∀ L0 : (Int → Prop),
    ((
        (∀ y1 : Int,
          ((
              (y1 < (a0.size : Int) →
                0 ≤ y1 ∧
                y1 < (a0.size : Int) ∧
                pToken (bt a0 y1) ∧
                (¬ ((mToken (bt a0 y1)) = true) →
                  (Q false)) ∧
                (¬ (¬ ((mToken (bt a0 y1)) = true)) →
                  (L0 (IntKind.i64.wrap (y1 + 1))))) ∧
              (¬ (y1 < (a0.size : Int)) →
                (Q (decide (0 < (a0.size : Int)))))
            ) →
            (L0 y1)))
      ) →
      (L0 0)))

def s_spec_IsValueText (a0 : S) (Q : (Bool → Prop)) : Prop :=
  (∀ L0 : (Int → Prop),
    ((
        (∀ y1 : Int,
          ((
              (y1 < (a0.size : Int) →
                0 ≤ y1 ∧
                y1 < (a0.size : Int) ∧
                ((bt a0 y1) ≠ 9 →
                  0 ≤ y1 ∧
                  y1 < (a0.size : Int) ∧
                  ((bt a0 y1) < 32 →
                    (Q false)) ∧
                  (¬ ((bt a0 y1) < 32) →
                    0 ≤ y1 ∧
                    y1 < (a0.size : Int) ∧
                    ((bt a0 y1) = 127 →
                      (Q false)) ∧
                    (¬ ((bt a0 y1) = 127) →
                      (L0 (IntKind.i64.wrap (y1 + 1)))))) ∧
                (¬ ((bt a0 y1) ≠ 9) →
                  (L0 (IntKind.i64.wrap (y1 + 1))))) ∧
              (¬ (y1 < (a0.size : Int)) →
                pTrim a0 ∧
                (Q (decide ((mTrim a0) = a0))))
            ) →
            (L0 y1)))
      ) →
      (L0 0)))

def s_spec_Lower (a0 : S) (Q : (S → Prop)) : Prop :=
  a0.size ≤ 140737488355328 ∧
  (∀ L0 : ((Int × (List Int)) → Prop),
    ((
        (∀ y1 : (Int × (List Int)),
          ((
              (y1.1 < (y1.2.length : Int) →
                0 ≤ y1.1 ∧
                y1.1 < (y1.2.length : Int) ∧
                (65 ≤ (rx y1.2 y1.1) →
                  0 ≤ y1.1 ∧
                  y1.1 < (y1.2.length : Int) ∧
                  ((rx y1.2 y1.1) ≤ 90 →
                    0 ≤ y1.1 ∧
                    y1.1 < (y1.2.length : Int) ∧
                    0 ≤ y1.1 ∧
                    y1.1 < (y1.2.length : Int) ∧
                    (L0 ((IntKind.i64.wrap (y1.1 + 1)), (y1.2.set y1.1.toNat (IntKind.u8.wrap ((rx y1.2 y1.1) + 32)))))) ∧
                  (¬ ((rx y1.2 y1.1) ≤ 90) →
                    (L0 ((IntKind.i64.wrap (y1.1 + 1)), y1.2)))) ∧
                (¬ (65 ≤ (rx y1.2 y1.1)) →
                  (L0 ((IntKind.i64.wrap (y1.1 + 1)), y1.2)))) ∧
              (¬ (y1.1 < (y1.2.length : Int)) →
                (Q (strOf y1.2)))
            ) →
            (L0 y1)))
      ) →
      (L0 (0, (bytesOf a0)))))

def s_spec_MayShare (a0 : Req) (a1 : Flt) (a2 : Int) (Q : (Bool → Prop)) : Prop :=
  (¬ (a1.2.1 = true) →
    (a1.2.2.2.1 = true →
      (a1.2.2.2.2.1 = true →
        pPicked (a1.2.2.2.2.2.1, a1.2.2.2.2.2.2.1, a1.2.2.2.2.2.2.2.1, a1.2.2.2.2.2.2.2.2.1) (a1.2.2.2.2.2.2.2.2.2.1, a1.2.2.2.2.2.2.2.2.2.2.1, a1.2.2.2.2.2.2.2.2.2.2.2.1) ∧
        pVaryFits a0 (a1.2.2.2.2.2.2.2.2.2.1, a1.2.2.2.2.2.2.2.2.2.2.1, a1.2.2.2.2.2.2.2.2.2.2.2.1) (mPicked (a1.2.2.2.2.2.1, a1.2.2.2.2.2.2.1, a1.2.2.2.2.2.2.2.1, a1.2.2.2.2.2.2.2.2.1) (a1.2.2.2.2.2.2.2.2.2.1, a1.2.2.2.2.2.2.2.2.2.2.1, a1.2.2.2.2.2.2.2.2.2.2.2.1)) ∧
        ((mVaryFits a0 (a1.2.2.2.2.2.2.2.2.2.1, a1.2.2.2.2.2.2.2.2.2.2.1, a1.2.2.2.2.2.2.2.2.2.2.2.1) (mPicked (a1.2.2.2.2.2.1, a1.2.2.2.2.2.2.1, a1.2.2.2.2.2.2.2.1, a1.2.2.2.2.2.2.2.2.1) (a1.2.2.2.2.2.2.2.2.2.1, a1.2.2.2.2.2.2.2.2.2.2.1, a1.2.2.2.2.2.2.2.2.2.2.2.1))) = true →
          pItsOwn a0 ∧
          (Q (decide (¬ ((mItsOwn a0) = true))))) ∧
        (¬ ((mVaryFits a0 (a1.2.2.2.2.2.2.2.2.2.1, a1.2.2.2.2.2.2.2.2.2.2.1, a1.2.2.2.2.2.2.2.2.2.2.2.1) (mPicked (a1.2.2.2.2.2.1, a1.2.2.2.2.2.2.1, a1.2.2.2.2.2.2.2.1, a1.2.2.2.2.2.2.2.2.1) (a1.2.2.2.2.2.2.2.2.2.1, a1.2.2.2.2.2.2.2.2.2.2.1, a1.2.2.2.2.2.2.2.2.2.2.2.1))) = true) →
          (Q false))) ∧
      (¬ (a1.2.2.2.2.1 = true) →
        (Q false))) ∧
    (¬ (a1.2.2.2.1 = true) →
      (Q false))) ∧
  (¬ (¬ (a1.2.1 = true)) →
    (Q false))

def s_spec_Normal (a0 : S) (Q : (S → Prop)) : Prop :=
  pSplitList a0 ∧
  (∀ L0 : (Gen → Prop),
    ((
        (∀ y1 : Gen,
          ((
              (y1.2 < ((mSplitList a0).length : Int) →
                (0 < y1.2 →
                  y1.1.size + (lit [44, 32]).size ≤ 9223372036854775807 ∧
                  0 ≤ y1.2 ∧
                  y1.2 < ((mSplitList a0).length : Int) ∧
                  (y1.1 ++ (lit [44, 32])).size + (rx (mSplitList a0) y1.2).size ≤ 9223372036854775807 ∧
                  (L0 (((y1.1 ++ (lit [44, 32])) ++ (rx (mSplitList a0) y1.2)), (IntKind.i64.wrap (y1.2 + 1))))) ∧
                (¬ (0 < y1.2) →
                  0 ≤ y1.2 ∧
                  y1.2 < ((mSplitList a0).length : Int) ∧
                  y1.1.size + (rx (mSplitList a0) y1.2).size ≤ 9223372036854775807 ∧
                  (L0 ((y1.1 ++ (rx (mSplitList a0) y1.2)), (IntKind.i64.wrap (y1.2 + 1)))))) ∧
              (¬ (y1.2 < ((mSplitList a0).length : Int)) →
                (Q y1.1))
            ) →
            (L0 y1)))
      ) →
      (L0 ((lit []), 0))))

def s_spec_OnlyStored (a0 : Req) (Q : (Bool → Prop)) : Prop :=
  pCcHas a0.2.2.1 (lit [111, 110, 108, 121, 45, 105, 102, 45, 99, 97, 99, 104, 101, 100]) ∧
  (Q (mCcHas a0.2.2.1 (lit [111, 110, 108, 121, 45, 105, 102, 45, 99, 97, 99, 104, 101, 100])))

def s_spec_OriginOk (a0 : (List Rsc)) (Q : (Bool → Prop)) : Prop :=
  (∀ L0 : (Int → Prop),
    ((
        (∀ y1 : Int,
          ((
              (y1 < (a0.length : Int) →
                0 ≤ y1 ∧
                y1 < (a0.length : Int) ∧
                pUriOk (rx a0 y1).1 ∧
                (¬ ((mUriOk (rx a0 y1).1) = true) →
                  (Q false)) ∧
                (¬ (¬ ((mUriOk (rx a0 y1).1) = true)) →
                  (60 < ((rx a0 y1).2.1.size : Int) →
                    (Q false)) ∧
                  (¬ (60 < ((rx a0 y1).2.1.size : Int)) →
                    pIn (rx a0 y1).2.2.1 1 100000 ∧
                    (¬ ((mIn (rx a0 y1).2.2.1 1 100000) = true) →
                      (Q false)) ∧
                    (¬ (¬ ((mIn (rx a0 y1).2.2.1 1 100000) = true)) →
                      pIn (rx a0 y1).2.2.2.1 0 2000000000 ∧
                      (¬ ((mIn (rx a0 y1).2.2.2.1 0 2000000000) = true) →
                        (Q false)) ∧
                      (¬ (¬ ((mIn (rx a0 y1).2.2.2.1 0 2000000000) = true)) →
                        pOwnFields (rx a0 y1).2.2.2.2.2.2 ∧
                        (¬ ((mOwnFields (rx a0 y1).2.2.2.2.2.2) = true) →
                          (Q false)) ∧
                        (¬ (¬ ((mOwnFields (rx a0 y1).2.2.2.2.2.2) = true)) →
                          (6 < ((rx a0 y1).2.2.2.2.2.2.length : Int) →
                            (Q false)) ∧
                          (¬ (6 < ((rx a0 y1).2.2.2.2.2.2.length : Int)) →
                            (0 < y1 →
                              0 ≤ (IntKind.i64.wrap (y1 - 1)) ∧
                              (IntKind.i64.wrap (y1 - 1)) < (a0.length : Int) ∧
                              ((strLt (rx a0 y1).1 (rx a0 (IntKind.i64.wrap (y1 - 1))).1 ∨ (rx a0 y1).1 = (rx a0 (IntKind.i64.wrap (y1 - 1))).1) →
                                (Q false)) ∧
                              (¬ ((strLt (rx a0 y1).1 (rx a0 (IntKind.i64.wrap (y1 - 1))).1 ∨ (rx a0 y1).1 = (rx a0 (IntKind.i64.wrap (y1 - 1))).1)) →
                                (L0 (IntKind.i64.wrap (y1 + 1))))) ∧
                            (¬ (0 < y1) →
                              (L0 (IntKind.i64.wrap (y1 + 1))))))))))) ∧
              (¬ (y1 < (a0.length : Int)) →
                (Q (decide ((a0.length : Int) ≤ 8))))
            ) →
            (L0 y1)))
      ) →
      (L0 0)))

def s_spec_Picked (a0 : Req) (a1 : Rsp) (Q : ((List Fld) → Prop)) : Prop :=
  pVaryNames a1 ∧
  (∀ L0 : (((List Fld) × Int) → Prop),
    ((
        (∀ y1 : ((List Fld) × Int),
          ((
              (y1.2 < ((mVaryNames a1).length : Int) →
                0 ≤ y1.2 ∧
                y1.2 < ((mVaryNames a1).length : Int) ∧
                pFieldGet a0.2.2.1 (rx (mVaryNames a1) y1.2) ∧
                ((mFieldGet a0.2.2.1 (rx (mVaryNames a1) y1.2)).2 = true →
                  0 ≤ y1.2 ∧
                  y1.2 < ((mVaryNames a1).length : Int) ∧
                  pNormal (mFieldGet a0.2.2.1 (rx (mVaryNames a1) y1.2)).1 ∧
                  (y1.1.length + [((rx (mVaryNames a1) y1.2), (mNormal (mFieldGet a0.2.2.1 (rx (mVaryNames a1) y1.2)).1))].length) * 32 ≤ 140737488355328 ∧
                  (L0 ((y1.1 ++ [((rx (mVaryNames a1) y1.2), (mNormal (mFieldGet a0.2.2.1 (rx (mVaryNames a1) y1.2)).1))]), (IntKind.i64.wrap (y1.2 + 1))))) ∧
                (¬ ((mFieldGet a0.2.2.1 (rx (mVaryNames a1) y1.2)).2 = true) →
                  (L0 (y1.1, (IntKind.i64.wrap (y1.2 + 1)))))) ∧
              (¬ (y1.2 < ((mVaryNames a1).length : Int)) →
                (Q y1.1))
            ) →
            (L0 y1)))
      ) →
      (L0 ([], 0))))

def s_spec_ReadDec (a0 : S) (Q : ((Int × Bool) → Prop)) : Prop :=
  (∀ L0 : ((Int × (Int × Int)) → Prop),
    ((
        (∀ y1 : (Int × (Int × Int)),
          ((
              (y1.2.2 < (a0.size : Int) →
                (y1.2.2 < 11 →
                  0 ≤ y1.2.2 ∧
                  y1.2.2 < (a0.size : Int) ∧
                  (48 ≤ (bt a0 y1.2.2) →
                    0 ≤ y1.2.2 ∧
                    y1.2.2 < (a0.size : Int) ∧
                    ((bt a0 y1.2.2) ≤ 57 →
                      0 ≤ y1.2.2 ∧
                      y1.2.2 < (a0.size : Int) ∧
                      (L0 ((IntKind.i64.wrap ((IntKind.i64.wrap (y1.1 * 10)) + (IntKind.i64.wrap (IntKind.u8.wrap ((bt a0 y1.2.2) - 48))))), (IntKind.i64.wrap (y1.2.1 + 1)), (IntKind.i64.wrap (y1.2.2 + 1))))) ∧
                    (¬ ((bt a0 y1.2.2) ≤ 57) →
                      (L0 (y1.1, y1.2.1, (IntKind.i64.wrap (y1.2.2 + 1)))))) ∧
                  (¬ (48 ≤ (bt a0 y1.2.2)) →
                    (L0 (y1.1, y1.2.1, (IntKind.i64.wrap (y1.2.2 + 1)))))) ∧
                (¬ (y1.2.2 < 11) →
                  (0 < (a0.size : Int) →
                    (0 : Int) ≤ 0 ∧
                    0 < (a0.size : Int) ∧
                    ((bt a0 0) = 45 →
                      (9 < y1.2.1 →
                        (Q (0, false))) ∧
                      (¬ (9 < y1.2.1) →
                        (10 < (a0.size : Int) →
                          (Q (0, false))) ∧
                        (¬ (10 < (a0.size : Int)) →
                          pDec (IntKind.i64.wrap (0 - y1.1)) ∧
                          ((mDec (IntKind.i64.wrap (0 - y1.1))) ≠ a0 →
                            (Q (0, false))) ∧
                          (¬ ((mDec (IntKind.i64.wrap (0 - y1.1))) ≠ a0) →
                            (Q ((IntKind.i64.wrap (0 - y1.1)), true)))))) ∧
                    (¬ ((bt a0 0) = 45) →
                      (9 < y1.2.1 →
                        (Q (0, false))) ∧
                      (¬ (9 < y1.2.1) →
                        (10 < (a0.size : Int) →
                          (Q (0, false))) ∧
                        (¬ (10 < (a0.size : Int)) →
                          pDec y1.1 ∧
                          ((mDec y1.1) ≠ a0 →
                            (Q (0, false))) ∧
                          (¬ ((mDec y1.1) ≠ a0) →
                            (Q (y1.1, true))))))) ∧
                  (¬ (0 < (a0.size : Int)) →
                    (9 < y1.2.1 →
                      (Q (0, false))) ∧
                    (¬ (9 < y1.2.1) →
                      (10 < (a0.size : Int) →
                        (Q (0, false))) ∧
                      (¬ (10 < (a0.size : Int)) →
                        pDec y1.1 ∧
                        ((mDec y1.1) ≠ a0 →
                          (Q (0, false))) ∧
                        (¬ ((mDec y1.1) ≠ a0) →
                          (Q (y1.1, true)))))))) ∧
              (¬ (y1.2.2 < (a0.size : Int)) →
                (0 < (a0.size : Int) →
                  (0 : Int) ≤ 0 ∧
                  0 < (a0.size : Int) ∧
                  ((bt a0 0) = 45 →
                    (9 < y1.2.1 →
                      (Q (0, false))) ∧
                    (¬ (9 < y1.2.1) →
                      (10 < (a0.size : Int) →
                        (Q (0, false))) ∧
                      (¬ (10 < (a0.size : Int)) →
                        pDec (IntKind.i64.wrap (0 - y1.1)) ∧
                        ((mDec (IntKind.i64.wrap (0 - y1.1))) ≠ a0 →
                          (Q (0, false))) ∧
                        (¬ ((mDec (IntKind.i64.wrap (0 - y1.1))) ≠ a0) →
                          (Q ((IntKind.i64.wrap (0 - y1.1)), true)))))) ∧
                  (¬ ((bt a0 0) = 45) →
                    (9 < y1.2.1 →
                      (Q (0, false))) ∧
                    (¬ (9 < y1.2.1) →
                      (10 < (a0.size : Int) →
                        (Q (0, false))) ∧
                      (¬ (10 < (a0.size : Int)) →
                        pDec y1.1 ∧
                        ((mDec y1.1) ≠ a0 →
                          (Q (0, false))) ∧
                        (¬ ((mDec y1.1) ≠ a0) →
                          (Q (y1.1, true))))))) ∧
                (¬ (0 < (a0.size : Int)) →
                  (9 < y1.2.1 →
                    (Q (0, false))) ∧
                  (¬ (9 < y1.2.1) →
                    (10 < (a0.size : Int) →
                      (Q (0, false))) ∧
                    (¬ (10 < (a0.size : Int)) →
                      pDec y1.1 ∧
                      ((mDec y1.1) ≠ a0 →
                        (Q (0, false))) ∧
                      (¬ ((mDec y1.1) ≠ a0) →
                        (Q (y1.1, true)))))))
            ) →
            (L0 y1)))
      ) →
      (L0 (0, 0, 0))))

def s_spec_ResponseOk (a0 : Rsp) (Q : (Bool → Prop)) : Prop :=
  pIn a0.1 200 599 ∧
  ((mIn a0.1 200 599) = true →
    pOwnFields a0.2.1 ∧
    ((mOwnFields a0.2.1) = true →
      ((a0.2.2.size : Int) ≤ 60 →
        (a0.1 ≠ 204 →
          (a0.1 ≠ 304 →
            (Q true)) ∧
          (¬ (a0.1 ≠ 304) →
            (Q (decide (a0.2.2 = (lit [])))))) ∧
        (¬ (a0.1 ≠ 204) →
          (Q (decide (a0.2.2 = (lit [])))))) ∧
      (¬ ((a0.2.2.size : Int) ≤ 60) →
        (Q false))) ∧
    (¬ ((mOwnFields a0.2.1) = true) →
      (Q false))) ∧
  (¬ ((mIn a0.1 200 599) = true) →
    (Q false))

def s_spec_SameFields (a0 : (List Fld)) (a1 : (List Fld)) (Q : (Bool → Prop)) : Prop :=
  ((a0.length : Int) ≠ (a1.length : Int) →
    (Q false)) ∧
  (¬ ((a0.length : Int) ≠ (a1.length : Int)) →
    (∀ L0 : (Int → Prop),
      ((
          (∀ y1 : Int,
            ((
                (y1 < (a0.length : Int) →
                  0 ≤ y1 ∧
                  y1 < (a0.length : Int) ∧
                  0 ≤ y1 ∧
                  y1 < (a1.length : Int) ∧
                  (¬ ((rx a0 y1) = (rx a1 y1)) →
                    (Q false)) ∧
                  (¬ (¬ ((rx a0 y1) = (rx a1 y1))) →
                    (L0 (IntKind.i64.wrap (y1 + 1))))) ∧
                (¬ (y1 < (a0.length : Int)) →
                  (Q true))
              ) →
              (L0 y1)))
        ) →
        (L0 0))))

def s_spec_ShardOk (a0 : Shd) (Q : (Bool → Prop)) : Prop :=
  pIn a0.1 1 8 ∧
  (¬ ((mIn a0.1 1 8) = true) →
    (Q false)) ∧
  (¬ (¬ ((mIn a0.1 1 8) = true)) →
    pIn a0.2.1 0 500 ∧
    (¬ ((mIn a0.2.1 0 500) = true) →
      (Q false)) ∧
    (¬ (¬ ((mIn a0.2.1 0 500) = true)) →
      (a0.1 < (a0.2.2.1.length : Int) →
        (Q false)) ∧
      (¬ (a0.1 < (a0.2.2.1.length : Int)) →
        pFilledS a0 ∧
        (a0.2.1 < (mFilledS a0) →
          (Q false)) ∧
        (¬ (a0.2.1 < (mFilledS a0)) →
          (a0.2.2.2 ≠ 0 →
            pIn a0.2.2.2 0 (IntKind.i64.wrap ((a0.2.2.1.length : Int) - 1)) ∧
            (¬ ((mIn a0.2.2.2 0 (IntKind.i64.wrap ((a0.2.2.1.length : Int) - 1))) = true) →
              (Q false)) ∧
            (¬ (¬ ((mIn a0.2.2.2 0 (IntKind.i64.wrap ((a0.2.2.1.length : Int) - 1))) = true)) →
              (∀ L0 : (Int → Prop),
                ((
                    (∀ y1 : Int,
                      ((
                          (y1 < (a0.2.2.1.length : Int) →
                            0 ≤ y1 ∧
                            y1 < (a0.2.2.1.length : Int) ∧
                            pStoredOk ((rx a0.2.2.1 y1).1, (rx a0.2.2.1 y1).2.1, (rx a0.2.2.1 y1).2.2.1, (rx a0.2.2.1 y1).2.2.2.1, (rx a0.2.2.1 y1).2.2.2.2.1, (rx a0.2.2.1 y1).2.2.2.2.2.1, (rx a0.2.2.1 y1).2.2.2.2.2.2.1) ∧
                            (¬ ((mStoredOk ((rx a0.2.2.1 y1).1, (rx a0.2.2.1 y1).2.1, (rx a0.2.2.1 y1).2.2.1, (rx a0.2.2.1 y1).2.2.2.1, (rx a0.2.2.1 y1).2.2.2.2.1, (rx a0.2.2.1 y1).2.2.2.2.2.1, (rx a0.2.2.1 y1).2.2.2.2.2.2.1)) = true) →
                              (Q false)) ∧
                            (¬ (¬ ((mStoredOk ((rx a0.2.2.1 y1).1, (rx a0.2.2.1 y1).2.1, (rx a0.2.2.1 y1).2.2.1, (rx a0.2.2.1 y1).2.2.2.1, (rx a0.2.2.1 y1).2.2.2.2.1, (rx a0.2.2.1 y1).2.2.2.2.2.1, (rx a0.2.2.1 y1).2.2.2.2.2.2.1)) = true)) →
                              (∀ L2 : (Int → Prop),
                                ((
                                    (∀ y3 : Int,
                                      ((
                                          (y3 < y1 →
                                            0 ≤ y3 ∧
                                            y3 < (a0.2.2.1.length : Int) ∧
                                            0 ≤ y1 ∧
                                            y1 < (a0.2.2.1.length : Int) ∧
                                            pStandAlike ((rx a0.2.2.1 y3).1, (rx a0.2.2.1 y3).2.1, (rx a0.2.2.1 y3).2.2.1, (rx a0.2.2.1 y3).2.2.2.1, (rx a0.2.2.1 y3).2.2.2.2.1, (rx a0.2.2.1 y3).2.2.2.2.2.1, (rx a0.2.2.1 y3).2.2.2.2.2.2.1) ((rx a0.2.2.1 y1).1, (rx a0.2.2.1 y1).2.1, (rx a0.2.2.1 y1).2.2.1, (rx a0.2.2.1 y1).2.2.2.1, (rx a0.2.2.1 y1).2.2.2.2.1, (rx a0.2.2.1 y1).2.2.2.2.2.1, (rx a0.2.2.1 y1).2.2.2.2.2.2.1) ∧
                                            ((mStandAlike ((rx a0.2.2.1 y3).1, (rx a0.2.2.1 y3).2.1, (rx a0.2.2.1 y3).2.2.1, (rx a0.2.2.1 y3).2.2.2.1, (rx a0.2.2.1 y3).2.2.2.2.1, (rx a0.2.2.1 y3).2.2.2.2.2.1, (rx a0.2.2.1 y3).2.2.2.2.2.2.1) ((rx a0.2.2.1 y1).1, (rx a0.2.2.1 y1).2.1, (rx a0.2.2.1 y1).2.2.1, (rx a0.2.2.1 y1).2.2.2.1, (rx a0.2.2.1 y1).2.2.2.2.1, (rx a0.2.2.1 y1).2.2.2.2.2.1, (rx a0.2.2.1 y1).2.2.2.2.2.2.1)) = true →
                                              (Q false)) ∧
                                            (¬ ((mStandAlike ((rx a0.2.2.1 y3).1, (rx a0.2.2.1 y3).2.1, (rx a0.2.2.1 y3).2.2.1, (rx a0.2.2.1 y3).2.2.2.1, (rx a0.2.2.1 y3).2.2.2.2.1, (rx a0.2.2.1 y3).2.2.2.2.2.1, (rx a0.2.2.1 y3).2.2.2.2.2.2.1) ((rx a0.2.2.1 y1).1, (rx a0.2.2.1 y1).2.1, (rx a0.2.2.1 y1).2.2.1, (rx a0.2.2.1 y1).2.2.2.1, (rx a0.2.2.1 y1).2.2.2.2.1, (rx a0.2.2.1 y1).2.2.2.2.2.1, (rx a0.2.2.1 y1).2.2.2.2.2.2.1)) = true) →
                                              (L2 (IntKind.i64.wrap (y3 + 1))))) ∧
                                          (¬ (y3 < y1) →
                                            (L0 (IntKind.i64.wrap (y1 + 1))))
                                        ) →
                                        (L2 y3)))
                                  ) →
                                  (L2 0))))) ∧
                          (¬ (y1 < (a0.2.2.1.length : Int)) →
                            (Q true))
                        ) →
                        (L0 y1)))
                  ) →
                  (L0 0))))) ∧
          (¬ (a0.2.2.2 ≠ 0) →
            (∀ L4 : (Int → Prop),
              ((
                  (∀ y5 : Int,
                    ((
                        (y5 < (a0.2.2.1.length : Int) →
                          0 ≤ y5 ∧
                          y5 < (a0.2.2.1.length : Int) ∧
                          pStoredOk ((rx a0.2.2.1 y5).1, (rx a0.2.2.1 y5).2.1, (rx a0.2.2.1 y5).2.2.1, (rx a0.2.2.1 y5).2.2.2.1, (rx a0.2.2.1 y5).2.2.2.2.1, (rx a0.2.2.1 y5).2.2.2.2.2.1, (rx a0.2.2.1 y5).2.2.2.2.2.2.1) ∧
                          (¬ ((mStoredOk ((rx a0.2.2.1 y5).1, (rx a0.2.2.1 y5).2.1, (rx a0.2.2.1 y5).2.2.1, (rx a0.2.2.1 y5).2.2.2.1, (rx a0.2.2.1 y5).2.2.2.2.1, (rx a0.2.2.1 y5).2.2.2.2.2.1, (rx a0.2.2.1 y5).2.2.2.2.2.2.1)) = true) →
                            (Q false)) ∧
                          (¬ (¬ ((mStoredOk ((rx a0.2.2.1 y5).1, (rx a0.2.2.1 y5).2.1, (rx a0.2.2.1 y5).2.2.1, (rx a0.2.2.1 y5).2.2.2.1, (rx a0.2.2.1 y5).2.2.2.2.1, (rx a0.2.2.1 y5).2.2.2.2.2.1, (rx a0.2.2.1 y5).2.2.2.2.2.2.1)) = true)) →
                            (∀ L6 : (Int → Prop),
                              ((
                                  (∀ y7 : Int,
                                    ((
                                        (y7 < y5 →
                                          0 ≤ y7 ∧
                                          y7 < (a0.2.2.1.length : Int) ∧
                                          0 ≤ y5 ∧
                                          y5 < (a0.2.2.1.length : Int) ∧
                                          pStandAlike ((rx a0.2.2.1 y7).1, (rx a0.2.2.1 y7).2.1, (rx a0.2.2.1 y7).2.2.1, (rx a0.2.2.1 y7).2.2.2.1, (rx a0.2.2.1 y7).2.2.2.2.1, (rx a0.2.2.1 y7).2.2.2.2.2.1, (rx a0.2.2.1 y7).2.2.2.2.2.2.1) ((rx a0.2.2.1 y5).1, (rx a0.2.2.1 y5).2.1, (rx a0.2.2.1 y5).2.2.1, (rx a0.2.2.1 y5).2.2.2.1, (rx a0.2.2.1 y5).2.2.2.2.1, (rx a0.2.2.1 y5).2.2.2.2.2.1, (rx a0.2.2.1 y5).2.2.2.2.2.2.1) ∧
                                          ((mStandAlike ((rx a0.2.2.1 y7).1, (rx a0.2.2.1 y7).2.1, (rx a0.2.2.1 y7).2.2.1, (rx a0.2.2.1 y7).2.2.2.1, (rx a0.2.2.1 y7).2.2.2.2.1, (rx a0.2.2.1 y7).2.2.2.2.2.1, (rx a0.2.2.1 y7).2.2.2.2.2.2.1) ((rx a0.2.2.1 y5).1, (rx a0.2.2.1 y5).2.1, (rx a0.2.2.1 y5).2.2.1, (rx a0.2.2.1 y5).2.2.2.1, (rx a0.2.2.1 y5).2.2.2.2.1, (rx a0.2.2.1 y5).2.2.2.2.2.1, (rx a0.2.2.1 y5).2.2.2.2.2.2.1)) = true →
                                            (Q false)) ∧
                                          (¬ ((mStandAlike ((rx a0.2.2.1 y7).1, (rx a0.2.2.1 y7).2.1, (rx a0.2.2.1 y7).2.2.1, (rx a0.2.2.1 y7).2.2.2.1, (rx a0.2.2.1 y7).2.2.2.2.1, (rx a0.2.2.1 y7).2.2.2.2.2.1, (rx a0.2.2.1 y7).2.2.2.2.2.2.1) ((rx a0.2.2.1 y5).1, (rx a0.2.2.1 y5).2.1, (rx a0.2.2.1 y5).2.2.1, (rx a0.2.2.1 y5).2.2.2.1, (rx a0.2.2.1 y5).2.2.2.2.1, (rx a0.2.2.1 y5).2.2.2.2.2.1, (rx a0.2.2.1 y5).2.2.2.2.2.2.1)) = true) →
                                            (L6 (IntKind.i64.wrap (y7 + 1))))) ∧
                                        (¬ (y7 < y5) →
                                          (L4 (IntKind.i64.wrap (y5 + 1))))
                                      ) →
                                      (L6 y7)))
                                ) →
                                (L6 0))))) ∧
                        (¬ (y5 < (a0.2.2.1.length : Int)) →
                          (Q true))
                      ) →
                      (L4 y5)))
                ) →
                (L4 0))))))))

def s_spec_SplitList (a0 : S) (Q : ((List S) → Prop)) : Prop :=
  (∀ L0 : (((List S) × (Int × (Bool × Int))) → Prop),
    ((
        (∀ y1 : ((List S) × (Int × (Bool × Int))),
          ((
              (y1.2.2.2 ≤ (a0.size : Int) →
                (y1.2.2.2 < (a0.size : Int) →
                  0 ≤ y1.2.2.2 ∧
                  y1.2.2.2 < (a0.size : Int) ∧
                  ((bt a0 y1.2.2.2) = 34 →
                    (y1.2.2.2 < (a0.size : Int) →
                      (¬ (y1.2.2.1 = true) →
                        0 ≤ y1.2.2.2 ∧
                        y1.2.2.2 < (a0.size : Int) ∧
                        ((bt a0 y1.2.2.2) = 92 →
                          (L0 (y1.1, y1.2.1, (decide (¬ (y1.2.2.1 = true))), (IntKind.i64.wrap ((IntKind.i64.wrap (y1.2.2.2 + 1)) + 1))))) ∧
                        (¬ ((bt a0 y1.2.2.2) = 92) →
                          ((a0.size : Int) ≤ y1.2.2.2 →
                            0 ≤ y1.2.1 ∧
                            y1.2.1 ≤ (if (a0.size : Int) < y1.2.2.2 then (a0.size : Int) else y1.2.2.2) ∧
                            (if (a0.size : Int) < y1.2.2.2 then (a0.size : Int) else y1.2.2.2) ≤ (a0.size : Int) ∧
                            pTrim (a0.extract y1.2.1.toNat (if (a0.size : Int) < y1.2.2.2 then (a0.size : Int) else y1.2.2.2).toNat) ∧
                            ((mTrim (a0.extract y1.2.1.toNat (if (a0.size : Int) < y1.2.2.2 then (a0.size : Int) else y1.2.2.2).toNat)) ≠ (lit []) →
                              (y1.1.length + [(mTrim (a0.extract y1.2.1.toNat (if (a0.size : Int) < y1.2.2.2 then (a0.size : Int) else y1.2.2.2).toNat))].length) * 16 ≤ 140737488355328 ∧
                              (L0 ((y1.1 ++ [(mTrim (a0.extract y1.2.1.toNat (if (a0.size : Int) < y1.2.2.2 then (a0.size : Int) else y1.2.2.2).toNat))]), (IntKind.i64.wrap (y1.2.2.2 + 1)), (decide (¬ (y1.2.2.1 = true))), (IntKind.i64.wrap (y1.2.2.2 + 1))))) ∧
                            (¬ ((mTrim (a0.extract y1.2.1.toNat (if (a0.size : Int) < y1.2.2.2 then (a0.size : Int) else y1.2.2.2).toNat)) ≠ (lit [])) →
                              (L0 (y1.1, (IntKind.i64.wrap (y1.2.2.2 + 1)), (decide (¬ (y1.2.2.1 = true))), (IntKind.i64.wrap (y1.2.2.2 + 1)))))) ∧
                          (¬ ((a0.size : Int) ≤ y1.2.2.2) →
                            0 ≤ y1.2.2.2 ∧
                            y1.2.2.2 < (a0.size : Int) ∧
                            ((bt a0 y1.2.2.2) = 44 →
                              (¬ (¬ (y1.2.2.1 = true)) →
                                0 ≤ y1.2.1 ∧
                                y1.2.1 ≤ (if (a0.size : Int) < y1.2.2.2 then (a0.size : Int) else y1.2.2.2) ∧
                                (if (a0.size : Int) < y1.2.2.2 then (a0.size : Int) else y1.2.2.2) ≤ (a0.size : Int) ∧
                                pTrim (a0.extract y1.2.1.toNat (if (a0.size : Int) < y1.2.2.2 then (a0.size : Int) else y1.2.2.2).toNat) ∧
                                ((mTrim (a0.extract y1.2.1.toNat (if (a0.size : Int) < y1.2.2.2 then (a0.size : Int) else y1.2.2.2).toNat)) ≠ (lit []) →
                                  (y1.1.length + [(mTrim (a0.extract y1.2.1.toNat (if (a0.size : Int) < y1.2.2.2 then (a0.size : Int) else y1.2.2.2).toNat))].length) * 16 ≤ 140737488355328 ∧
                                  (L0 ((y1.1 ++ [(mTrim (a0.extract y1.2.1.toNat (if (a0.size : Int) < y1.2.2.2 then (a0.size : Int) else y1.2.2.2).toNat))]), (IntKind.i64.wrap (y1.2.2.2 + 1)), (decide (¬ (y1.2.2.1 = true))), (IntKind.i64.wrap (y1.2.2.2 + 1))))) ∧
                                (¬ ((mTrim (a0.extract y1.2.1.toNat (if (a0.size : Int) < y1.2.2.2 then (a0.size : Int) else y1.2.2.2).toNat)) ≠ (lit [])) →
                                  (L0 (y1.1, (IntKind.i64.wrap (y1.2.2.2 + 1)), (decide (¬ (y1.2.2.1 = true))), (IntKind.i64.wrap (y1.2.2.2 + 1)))))) ∧
                              (¬ (¬ (¬ (y1.2.2.1 = true))) →
                                (L0 (y1.1, y1.2.1, (decide (¬ (y1.2.2.1 = true))), (IntKind.i64.wrap (y1.2.2.2 + 1)))))) ∧
                            (¬ ((bt a0 y1.2.2.2) = 44) →
                              (L0 (y1.1, y1.2.1, (decide (¬ (y1.2.2.1 = true))), (IntKind.i64.wrap (y1.2.2.2 + 1)))))))) ∧
                      (¬ (¬ (y1.2.2.1 = true)) →
                        ((a0.size : Int) ≤ y1.2.2.2 →
                          0 ≤ y1.2.1 ∧
                          y1.2.1 ≤ (if (a0.size : Int) < y1.2.2.2 then (a0.size : Int) else y1.2.2.2) ∧
                          (if (a0.size : Int) < y1.2.2.2 then (a0.size : Int) else y1.2.2.2) ≤ (a0.size : Int) ∧
                          pTrim (a0.extract y1.2.1.toNat (if (a0.size : Int) < y1.2.2.2 then (a0.size : Int) else y1.2.2.2).toNat) ∧
                          ((mTrim (a0.extract y1.2.1.toNat (if (a0.size : Int) < y1.2.2.2 then (a0.size : Int) else y1.2.2.2).toNat)) ≠ (lit []) →
                            (y1.1.length + [(mTrim (a0.extract y1.2.1.toNat (if (a0.size : Int) < y1.2.2.2 then (a0.size : Int) else y1.2.2.2).toNat))].length) * 16 ≤ 140737488355328 ∧
                            (L0 ((y1.1 ++ [(mTrim (a0.extract y1.2.1.toNat (if (a0.size : Int) < y1.2.2.2 then (a0.size : Int) else y1.2.2.2).toNat))]), (IntKind.i64.wrap (y1.2.2.2 + 1)), (decide (¬ (y1.2.2.1 = true))), (IntKind.i64.wrap (y1.2.2.2 + 1))))) ∧
                          (¬ ((mTrim (a0.extract y1.2.1.toNat (if (a0.size : Int) < y1.2.2.2 then (a0.size : Int) else y1.2.2.2).toNat)) ≠ (lit [])) →
                            (L0 (y1.1, (IntKind.i64.wrap (y1.2.2.2 + 1)), (decide (¬ (y1.2.2.1 = true))), (IntKind.i64.wrap (y1.2.2.2 + 1)))))) ∧
                        (¬ ((a0.size : Int) ≤ y1.2.2.2) →
                          0 ≤ y1.2.2.2 ∧
                          y1.2.2.2 < (a0.size : Int) ∧
                          ((bt a0 y1.2.2.2) = 44 →
                            (¬ (¬ (y1.2.2.1 = true)) →
                              0 ≤ y1.2.1 ∧
                              y1.2.1 ≤ (if (a0.size : Int) < y1.2.2.2 then (a0.size : Int) else y1.2.2.2) ∧
                              (if (a0.size : Int) < y1.2.2.2 then (a0.size : Int) else y1.2.2.2) ≤ (a0.size : Int) ∧
                              pTrim (a0.extract y1.2.1.toNat (if (a0.size : Int) < y1.2.2.2 then (a0.size : Int) else y1.2.2.2).toNat) ∧
                              ((mTrim (a0.extract y1.2.1.toNat (if (a0.size : Int) < y1.2.2.2 then (a0.size : Int) else y1.2.2.2).toNat)) ≠ (lit []) →
                                (y1.1.length + [(mTrim (a0.extract y1.2.1.toNat (if (a0.size : Int) < y1.2.2.2 then (a0.size : Int) else y1.2.2.2).toNat))].length) * 16 ≤ 140737488355328 ∧
                                (L0 ((y1.1 ++ [(mTrim (a0.extract y1.2.1.toNat (if (a0.size : Int) < y1.2.2.2 then (a0.size : Int) else y1.2.2.2).toNat))]), (IntKind.i64.wrap (y1.2.2.2 + 1)), (decide (¬ (y1.2.2.1 = true))), (IntKind.i64.wrap (y1.2.2.2 + 1))))) ∧
                              (¬ ((mTrim (a0.extract y1.2.1.toNat (if (a0.size : Int) < y1.2.2.2 then (a0.size : Int) else y1.2.2.2).toNat)) ≠ (lit [])) →
                                (L0 (y1.1, (IntKind.i64.wrap (y1.2.2.2 + 1)), (decide (¬ (y1.2.2.1 = true))), (IntKind.i64.wrap (y1.2.2.2 + 1)))))) ∧
                            (¬ (¬ (¬ (y1.2.2.1 = true))) →
                              (L0 (y1.1, y1.2.1, (decide (¬ (y1.2.2.1 = true))), (IntKind.i64.wrap (y1.2.2.2 + 1)))))) ∧
                          (¬ ((bt a0 y1.2.2.2) = 44) →
                            (L0 (y1.1, y1.2.1, (decide (¬ (y1.2.2.1 = true))), (IntKind.i64.wrap (y1.2.2.2 + 1)))))))) ∧
                    (¬ (y1.2.2.2 < (a0.size : Int)) →
                      ((a0.size : Int) ≤ y1.2.2.2 →
                        0 ≤ y1.2.1 ∧
                        y1.2.1 ≤ (if (a0.size : Int) < y1.2.2.2 then (a0.size : Int) else y1.2.2.2) ∧
                        (if (a0.size : Int) < y1.2.2.2 then (a0.size : Int) else y1.2.2.2) ≤ (a0.size : Int) ∧
                        pTrim (a0.extract y1.2.1.toNat (if (a0.size : Int) < y1.2.2.2 then (a0.size : Int) else y1.2.2.2).toNat) ∧
                        ((mTrim (a0.extract y1.2.1.toNat (if (a0.size : Int) < y1.2.2.2 then (a0.size : Int) else y1.2.2.2).toNat)) ≠ (lit []) →
                          (y1.1.length + [(mTrim (a0.extract y1.2.1.toNat (if (a0.size : Int) < y1.2.2.2 then (a0.size : Int) else y1.2.2.2).toNat))].length) * 16 ≤ 140737488355328 ∧
                          (L0 ((y1.1 ++ [(mTrim (a0.extract y1.2.1.toNat (if (a0.size : Int) < y1.2.2.2 then (a0.size : Int) else y1.2.2.2).toNat))]), (IntKind.i64.wrap (y1.2.2.2 + 1)), (decide (¬ (y1.2.2.1 = true))), (IntKind.i64.wrap (y1.2.2.2 + 1))))) ∧
                        (¬ ((mTrim (a0.extract y1.2.1.toNat (if (a0.size : Int) < y1.2.2.2 then (a0.size : Int) else y1.2.2.2).toNat)) ≠ (lit [])) →
                          (L0 (y1.1, (IntKind.i64.wrap (y1.2.2.2 + 1)), (decide (¬ (y1.2.2.1 = true))), (IntKind.i64.wrap (y1.2.2.2 + 1)))))) ∧
                      (¬ ((a0.size : Int) ≤ y1.2.2.2) →
                        0 ≤ y1.2.2.2 ∧
                        y1.2.2.2 < (a0.size : Int) ∧
                        ((bt a0 y1.2.2.2) = 44 →
                          (¬ (¬ (y1.2.2.1 = true)) →
                            0 ≤ y1.2.1 ∧
                            y1.2.1 ≤ (if (a0.size : Int) < y1.2.2.2 then (a0.size : Int) else y1.2.2.2) ∧
                            (if (a0.size : Int) < y1.2.2.2 then (a0.size : Int) else y1.2.2.2) ≤ (a0.size : Int) ∧
                            pTrim (a0.extract y1.2.1.toNat (if (a0.size : Int) < y1.2.2.2 then (a0.size : Int) else y1.2.2.2).toNat) ∧
                            ((mTrim (a0.extract y1.2.1.toNat (if (a0.size : Int) < y1.2.2.2 then (a0.size : Int) else y1.2.2.2).toNat)) ≠ (lit []) →
                              (y1.1.length + [(mTrim (a0.extract y1.2.1.toNat (if (a0.size : Int) < y1.2.2.2 then (a0.size : Int) else y1.2.2.2).toNat))].length) * 16 ≤ 140737488355328 ∧
                              (L0 ((y1.1 ++ [(mTrim (a0.extract y1.2.1.toNat (if (a0.size : Int) < y1.2.2.2 then (a0.size : Int) else y1.2.2.2).toNat))]), (IntKind.i64.wrap (y1.2.2.2 + 1)), (decide (¬ (y1.2.2.1 = true))), (IntKind.i64.wrap (y1.2.2.2 + 1))))) ∧
                            (¬ ((mTrim (a0.extract y1.2.1.toNat (if (a0.size : Int) < y1.2.2.2 then (a0.size : Int) else y1.2.2.2).toNat)) ≠ (lit [])) →
                              (L0 (y1.1, (IntKind.i64.wrap (y1.2.2.2 + 1)), (decide (¬ (y1.2.2.1 = true))), (IntKind.i64.wrap (y1.2.2.2 + 1)))))) ∧
                          (¬ (¬ (¬ (y1.2.2.1 = true))) →
                            (L0 (y1.1, y1.2.1, (decide (¬ (y1.2.2.1 = true))), (IntKind.i64.wrap (y1.2.2.2 + 1)))))) ∧
                        (¬ ((bt a0 y1.2.2.2) = 44) →
                          (L0 (y1.1, y1.2.1, (decide (¬ (y1.2.2.1 = true))), (IntKind.i64.wrap (y1.2.2.2 + 1)))))))) ∧
                  (¬ ((bt a0 y1.2.2.2) = 34) →
                    (y1.2.2.2 < (a0.size : Int) →
                      (y1.2.2.1 = true →
                        0 ≤ y1.2.2.2 ∧
                        y1.2.2.2 < (a0.size : Int) ∧
                        ((bt a0 y1.2.2.2) = 92 →
                          (L0 (y1.1, y1.2.1, y1.2.2.1, (IntKind.i64.wrap ((IntKind.i64.wrap (y1.2.2.2 + 1)) + 1))))) ∧
                        (¬ ((bt a0 y1.2.2.2) = 92) →
                          ((a0.size : Int) ≤ y1.2.2.2 →
                            0 ≤ y1.2.1 ∧
                            y1.2.1 ≤ (if (a0.size : Int) < y1.2.2.2 then (a0.size : Int) else y1.2.2.2) ∧
                            (if (a0.size : Int) < y1.2.2.2 then (a0.size : Int) else y1.2.2.2) ≤ (a0.size : Int) ∧
                            pTrim (a0.extract y1.2.1.toNat (if (a0.size : Int) < y1.2.2.2 then (a0.size : Int) else y1.2.2.2).toNat) ∧
                            ((mTrim (a0.extract y1.2.1.toNat (if (a0.size : Int) < y1.2.2.2 then (a0.size : Int) else y1.2.2.2).toNat)) ≠ (lit []) →
                              (y1.1.length + [(mTrim (a0.extract y1.2.1.toNat (if (a0.size : Int) < y1.2.2.2 then (a0.size : Int) else y1.2.2.2).toNat))].length) * 16 ≤ 140737488355328 ∧
                              (L0 ((y1.1 ++ [(mTrim (a0.extract y1.2.1.toNat (if (a0.size : Int) < y1.2.2.2 then (a0.size : Int) else y1.2.2.2).toNat))]), (IntKind.i64.wrap (y1.2.2.2 + 1)), y1.2.2.1, (IntKind.i64.wrap (y1.2.2.2 + 1))))) ∧
                            (¬ ((mTrim (a0.extract y1.2.1.toNat (if (a0.size : Int) < y1.2.2.2 then (a0.size : Int) else y1.2.2.2).toNat)) ≠ (lit [])) →
                              (L0 (y1.1, (IntKind.i64.wrap (y1.2.2.2 + 1)), y1.2.2.1, (IntKind.i64.wrap (y1.2.2.2 + 1)))))) ∧
                          (¬ ((a0.size : Int) ≤ y1.2.2.2) →
                            0 ≤ y1.2.2.2 ∧
                            y1.2.2.2 < (a0.size : Int) ∧
                            ((bt a0 y1.2.2.2) = 44 →
                              (¬ (y1.2.2.1 = true) →
                                0 ≤ y1.2.1 ∧
                                y1.2.1 ≤ (if (a0.size : Int) < y1.2.2.2 then (a0.size : Int) else y1.2.2.2) ∧
                                (if (a0.size : Int) < y1.2.2.2 then (a0.size : Int) else y1.2.2.2) ≤ (a0.size : Int) ∧
                                pTrim (a0.extract y1.2.1.toNat (if (a0.size : Int) < y1.2.2.2 then (a0.size : Int) else y1.2.2.2).toNat) ∧
                                ((mTrim (a0.extract y1.2.1.toNat (if (a0.size : Int) < y1.2.2.2 then (a0.size : Int) else y1.2.2.2).toNat)) ≠ (lit []) →
                                  (y1.1.length + [(mTrim (a0.extract y1.2.1.toNat (if (a0.size : Int) < y1.2.2.2 then (a0.size : Int) else y1.2.2.2).toNat))].length) * 16 ≤ 140737488355328 ∧
                                  (L0 ((y1.1 ++ [(mTrim (a0.extract y1.2.1.toNat (if (a0.size : Int) < y1.2.2.2 then (a0.size : Int) else y1.2.2.2).toNat))]), (IntKind.i64.wrap (y1.2.2.2 + 1)), y1.2.2.1, (IntKind.i64.wrap (y1.2.2.2 + 1))))) ∧
                                (¬ ((mTrim (a0.extract y1.2.1.toNat (if (a0.size : Int) < y1.2.2.2 then (a0.size : Int) else y1.2.2.2).toNat)) ≠ (lit [])) →
                                  (L0 (y1.1, (IntKind.i64.wrap (y1.2.2.2 + 1)), y1.2.2.1, (IntKind.i64.wrap (y1.2.2.2 + 1)))))) ∧
                              (¬ (¬ (y1.2.2.1 = true)) →
                                (L0 (y1.1, y1.2.1, y1.2.2.1, (IntKind.i64.wrap (y1.2.2.2 + 1)))))) ∧
                            (¬ ((bt a0 y1.2.2.2) = 44) →
                              (L0 (y1.1, y1.2.1, y1.2.2.1, (IntKind.i64.wrap (y1.2.2.2 + 1)))))))) ∧
                      (¬ (y1.2.2.1 = true) →
                        ((a0.size : Int) ≤ y1.2.2.2 →
                          0 ≤ y1.2.1 ∧
                          y1.2.1 ≤ (if (a0.size : Int) < y1.2.2.2 then (a0.size : Int) else y1.2.2.2) ∧
                          (if (a0.size : Int) < y1.2.2.2 then (a0.size : Int) else y1.2.2.2) ≤ (a0.size : Int) ∧
                          pTrim (a0.extract y1.2.1.toNat (if (a0.size : Int) < y1.2.2.2 then (a0.size : Int) else y1.2.2.2).toNat) ∧
                          ((mTrim (a0.extract y1.2.1.toNat (if (a0.size : Int) < y1.2.2.2 then (a0.size : Int) else y1.2.2.2).toNat)) ≠ (lit []) →
                            (y1.1.length + [(mTrim (a0.extract y1.2.1.toNat (if (a0.size : Int) < y1.2.2.2 then (a0.size : Int) else y1.2.2.2).toNat))].length) * 16 ≤ 140737488355328 ∧
                            (L0 ((y1.1 ++ [(mTrim (a0.extract y1.2.1.toNat (if (a0.size : Int) < y1.2.2.2 then (a0.size : Int) else y1.2.2.2).toNat))]), (IntKind.i64.wrap (y1.2.2.2 + 1)), y1.2.2.1, (IntKind.i64.wrap (y1.2.2.2 + 1))))) ∧
                          (¬ ((mTrim (a0.extract y1.2.1.toNat (if (a0.size : Int) < y1.2.2.2 then (a0.size : Int) else y1.2.2.2).toNat)) ≠ (lit [])) →
                            (L0 (y1.1, (IntKind.i64.wrap (y1.2.2.2 + 1)), y1.2.2.1, (IntKind.i64.wrap (y1.2.2.2 + 1)))))) ∧
                        (¬ ((a0.size : Int) ≤ y1.2.2.2) →
                          0 ≤ y1.2.2.2 ∧
                          y1.2.2.2 < (a0.size : Int) ∧
                          ((bt a0 y1.2.2.2) = 44 →
                            (¬ (y1.2.2.1 = true) →
                              0 ≤ y1.2.1 ∧
                              y1.2.1 ≤ (if (a0.size : Int) < y1.2.2.2 then (a0.size : Int) else y1.2.2.2) ∧
                              (if (a0.size : Int) < y1.2.2.2 then (a0.size : Int) else y1.2.2.2) ≤ (a0.size : Int) ∧
                              pTrim (a0.extract y1.2.1.toNat (if (a0.size : Int) < y1.2.2.2 then (a0.size : Int) else y1.2.2.2).toNat) ∧
                              ((mTrim (a0.extract y1.2.1.toNat (if (a0.size : Int) < y1.2.2.2 then (a0.size : Int) else y1.2.2.2).toNat)) ≠ (lit []) →
                                (y1.1.length + [(mTrim (a0.extract y1.2.1.toNat (if (a0.size : Int) < y1.2.2.2 then (a0.size : Int) else y1.2.2.2).toNat))].length) * 16 ≤ 140737488355328 ∧
                                (L0 ((y1.1 ++ [(mTrim (a0.extract y1.2.1.toNat (if (a0.size : Int) < y1.2.2.2 then (a0.size : Int) else y1.2.2.2).toNat))]), (IntKind.i64.wrap (y1.2.2.2 + 1)), y1.2.2.1, (IntKind.i64.wrap (y1.2.2.2 + 1))))) ∧
                              (¬ ((mTrim (a0.extract y1.2.1.toNat (if (a0.size : Int) < y1.2.2.2 then (a0.size : Int) else y1.2.2.2).toNat)) ≠ (lit [])) →
                                (L0 (y1.1, (IntKind.i64.wrap (y1.2.2.2 + 1)), y1.2.2.1, (IntKind.i64.wrap (y1.2.2.2 + 1)))))) ∧
                            (¬ (¬ (y1.2.2.1 = true)) →
                              (L0 (y1.1, y1.2.1, y1.2.2.1, (IntKind.i64.wrap (y1.2.2.2 + 1)))))) ∧
                          (¬ ((bt a0 y1.2.2.2) = 44) →
                            (L0 (y1.1, y1.2.1, y1.2.2.1, (IntKind.i64.wrap (y1.2.2.2 + 1)))))))) ∧
                    (¬ (y1.2.2.2 < (a0.size : Int)) →
                      ((a0.size : Int) ≤ y1.2.2.2 →
                        0 ≤ y1.2.1 ∧
                        y1.2.1 ≤ (if (a0.size : Int) < y1.2.2.2 then (a0.size : Int) else y1.2.2.2) ∧
                        (if (a0.size : Int) < y1.2.2.2 then (a0.size : Int) else y1.2.2.2) ≤ (a0.size : Int) ∧
                        pTrim (a0.extract y1.2.1.toNat (if (a0.size : Int) < y1.2.2.2 then (a0.size : Int) else y1.2.2.2).toNat) ∧
                        ((mTrim (a0.extract y1.2.1.toNat (if (a0.size : Int) < y1.2.2.2 then (a0.size : Int) else y1.2.2.2).toNat)) ≠ (lit []) →
                          (y1.1.length + [(mTrim (a0.extract y1.2.1.toNat (if (a0.size : Int) < y1.2.2.2 then (a0.size : Int) else y1.2.2.2).toNat))].length) * 16 ≤ 140737488355328 ∧
                          (L0 ((y1.1 ++ [(mTrim (a0.extract y1.2.1.toNat (if (a0.size : Int) < y1.2.2.2 then (a0.size : Int) else y1.2.2.2).toNat))]), (IntKind.i64.wrap (y1.2.2.2 + 1)), y1.2.2.1, (IntKind.i64.wrap (y1.2.2.2 + 1))))) ∧
                        (¬ ((mTrim (a0.extract y1.2.1.toNat (if (a0.size : Int) < y1.2.2.2 then (a0.size : Int) else y1.2.2.2).toNat)) ≠ (lit [])) →
                          (L0 (y1.1, (IntKind.i64.wrap (y1.2.2.2 + 1)), y1.2.2.1, (IntKind.i64.wrap (y1.2.2.2 + 1)))))) ∧
                      (¬ ((a0.size : Int) ≤ y1.2.2.2) →
                        0 ≤ y1.2.2.2 ∧
                        y1.2.2.2 < (a0.size : Int) ∧
                        ((bt a0 y1.2.2.2) = 44 →
                          (¬ (y1.2.2.1 = true) →
                            0 ≤ y1.2.1 ∧
                            y1.2.1 ≤ (if (a0.size : Int) < y1.2.2.2 then (a0.size : Int) else y1.2.2.2) ∧
                            (if (a0.size : Int) < y1.2.2.2 then (a0.size : Int) else y1.2.2.2) ≤ (a0.size : Int) ∧
                            pTrim (a0.extract y1.2.1.toNat (if (a0.size : Int) < y1.2.2.2 then (a0.size : Int) else y1.2.2.2).toNat) ∧
                            ((mTrim (a0.extract y1.2.1.toNat (if (a0.size : Int) < y1.2.2.2 then (a0.size : Int) else y1.2.2.2).toNat)) ≠ (lit []) →
                              (y1.1.length + [(mTrim (a0.extract y1.2.1.toNat (if (a0.size : Int) < y1.2.2.2 then (a0.size : Int) else y1.2.2.2).toNat))].length) * 16 ≤ 140737488355328 ∧
                              (L0 ((y1.1 ++ [(mTrim (a0.extract y1.2.1.toNat (if (a0.size : Int) < y1.2.2.2 then (a0.size : Int) else y1.2.2.2).toNat))]), (IntKind.i64.wrap (y1.2.2.2 + 1)), y1.2.2.1, (IntKind.i64.wrap (y1.2.2.2 + 1))))) ∧
                            (¬ ((mTrim (a0.extract y1.2.1.toNat (if (a0.size : Int) < y1.2.2.2 then (a0.size : Int) else y1.2.2.2).toNat)) ≠ (lit [])) →
                              (L0 (y1.1, (IntKind.i64.wrap (y1.2.2.2 + 1)), y1.2.2.1, (IntKind.i64.wrap (y1.2.2.2 + 1)))))) ∧
                          (¬ (¬ (y1.2.2.1 = true)) →
                            (L0 (y1.1, y1.2.1, y1.2.2.1, (IntKind.i64.wrap (y1.2.2.2 + 1)))))) ∧
                        (¬ ((bt a0 y1.2.2.2) = 44) →
                          (L0 (y1.1, y1.2.1, y1.2.2.1, (IntKind.i64.wrap (y1.2.2.2 + 1))))))))) ∧
                (¬ (y1.2.2.2 < (a0.size : Int)) →
                  (y1.2.2.2 < (a0.size : Int) →
                    (y1.2.2.1 = true →
                      0 ≤ y1.2.2.2 ∧
                      y1.2.2.2 < (a0.size : Int) ∧
                      ((bt a0 y1.2.2.2) = 92 →
                        (L0 (y1.1, y1.2.1, y1.2.2.1, (IntKind.i64.wrap ((IntKind.i64.wrap (y1.2.2.2 + 1)) + 1))))) ∧
                      (¬ ((bt a0 y1.2.2.2) = 92) →
                        ((a0.size : Int) ≤ y1.2.2.2 →
                          0 ≤ y1.2.1 ∧
                          y1.2.1 ≤ (if (a0.size : Int) < y1.2.2.2 then (a0.size : Int) else y1.2.2.2) ∧
                          (if (a0.size : Int) < y1.2.2.2 then (a0.size : Int) else y1.2.2.2) ≤ (a0.size : Int) ∧
                          pTrim (a0.extract y1.2.1.toNat (if (a0.size : Int) < y1.2.2.2 then (a0.size : Int) else y1.2.2.2).toNat) ∧
                          ((mTrim (a0.extract y1.2.1.toNat (if (a0.size : Int) < y1.2.2.2 then (a0.size : Int) else y1.2.2.2).toNat)) ≠ (lit []) →
                            (y1.1.length + [(mTrim (a0.extract y1.2.1.toNat (if (a0.size : Int) < y1.2.2.2 then (a0.size : Int) else y1.2.2.2).toNat))].length) * 16 ≤ 140737488355328 ∧
                            (L0 ((y1.1 ++ [(mTrim (a0.extract y1.2.1.toNat (if (a0.size : Int) < y1.2.2.2 then (a0.size : Int) else y1.2.2.2).toNat))]), (IntKind.i64.wrap (y1.2.2.2 + 1)), y1.2.2.1, (IntKind.i64.wrap (y1.2.2.2 + 1))))) ∧
                          (¬ ((mTrim (a0.extract y1.2.1.toNat (if (a0.size : Int) < y1.2.2.2 then (a0.size : Int) else y1.2.2.2).toNat)) ≠ (lit [])) →
                            (L0 (y1.1, (IntKind.i64.wrap (y1.2.2.2 + 1)), y1.2.2.1, (IntKind.i64.wrap (y1.2.2.2 + 1)))))) ∧
                        (¬ ((a0.size : Int) ≤ y1.2.2.2) →
                          0 ≤ y1.2.2.2 ∧
                          y1.2.2.2 < (a0.size : Int) ∧
                          ((bt a0 y1.2.2.2) = 44 →
                            (¬ (y1.2.2.1 = true) →
                              0 ≤ y1.2.1 ∧
                              y1.2.1 ≤ (if (a0.size : Int) < y1.2.2.2 then (a0.size : Int) else y1.2.2.2) ∧
                              (if (a0.size : Int) < y1.2.2.2 then (a0.size : Int) else y1.2.2.2) ≤ (a0.size : Int) ∧
                              pTrim (a0.extract y1.2.1.toNat (if (a0.size : Int) < y1.2.2.2 then (a0.size : Int) else y1.2.2.2).toNat) ∧
                              ((mTrim (a0.extract y1.2.1.toNat (if (a0.size : Int) < y1.2.2.2 then (a0.size : Int) else y1.2.2.2).toNat)) ≠ (lit []) →
                                (y1.1.length + [(mTrim (a0.extract y1.2.1.toNat (if (a0.size : Int) < y1.2.2.2 then (a0.size : Int) else y1.2.2.2).toNat))].length) * 16 ≤ 140737488355328 ∧
                                (L0 ((y1.1 ++ [(mTrim (a0.extract y1.2.1.toNat (if (a0.size : Int) < y1.2.2.2 then (a0.size : Int) else y1.2.2.2).toNat))]), (IntKind.i64.wrap (y1.2.2.2 + 1)), y1.2.2.1, (IntKind.i64.wrap (y1.2.2.2 + 1))))) ∧
                              (¬ ((mTrim (a0.extract y1.2.1.toNat (if (a0.size : Int) < y1.2.2.2 then (a0.size : Int) else y1.2.2.2).toNat)) ≠ (lit [])) →
                                (L0 (y1.1, (IntKind.i64.wrap (y1.2.2.2 + 1)), y1.2.2.1, (IntKind.i64.wrap (y1.2.2.2 + 1)))))) ∧
                            (¬ (¬ (y1.2.2.1 = true)) →
                              (L0 (y1.1, y1.2.1, y1.2.2.1, (IntKind.i64.wrap (y1.2.2.2 + 1)))))) ∧
                          (¬ ((bt a0 y1.2.2.2) = 44) →
                            (L0 (y1.1, y1.2.1, y1.2.2.1, (IntKind.i64.wrap (y1.2.2.2 + 1)))))))) ∧
                    (¬ (y1.2.2.1 = true) →
                      ((a0.size : Int) ≤ y1.2.2.2 →
                        0 ≤ y1.2.1 ∧
                        y1.2.1 ≤ (if (a0.size : Int) < y1.2.2.2 then (a0.size : Int) else y1.2.2.2) ∧
                        (if (a0.size : Int) < y1.2.2.2 then (a0.size : Int) else y1.2.2.2) ≤ (a0.size : Int) ∧
                        pTrim (a0.extract y1.2.1.toNat (if (a0.size : Int) < y1.2.2.2 then (a0.size : Int) else y1.2.2.2).toNat) ∧
                        ((mTrim (a0.extract y1.2.1.toNat (if (a0.size : Int) < y1.2.2.2 then (a0.size : Int) else y1.2.2.2).toNat)) ≠ (lit []) →
                          (y1.1.length + [(mTrim (a0.extract y1.2.1.toNat (if (a0.size : Int) < y1.2.2.2 then (a0.size : Int) else y1.2.2.2).toNat))].length) * 16 ≤ 140737488355328 ∧
                          (L0 ((y1.1 ++ [(mTrim (a0.extract y1.2.1.toNat (if (a0.size : Int) < y1.2.2.2 then (a0.size : Int) else y1.2.2.2).toNat))]), (IntKind.i64.wrap (y1.2.2.2 + 1)), y1.2.2.1, (IntKind.i64.wrap (y1.2.2.2 + 1))))) ∧
                        (¬ ((mTrim (a0.extract y1.2.1.toNat (if (a0.size : Int) < y1.2.2.2 then (a0.size : Int) else y1.2.2.2).toNat)) ≠ (lit [])) →
                          (L0 (y1.1, (IntKind.i64.wrap (y1.2.2.2 + 1)), y1.2.2.1, (IntKind.i64.wrap (y1.2.2.2 + 1)))))) ∧
                      (¬ ((a0.size : Int) ≤ y1.2.2.2) →
                        0 ≤ y1.2.2.2 ∧
                        y1.2.2.2 < (a0.size : Int) ∧
                        ((bt a0 y1.2.2.2) = 44 →
                          (¬ (y1.2.2.1 = true) →
                            0 ≤ y1.2.1 ∧
                            y1.2.1 ≤ (if (a0.size : Int) < y1.2.2.2 then (a0.size : Int) else y1.2.2.2) ∧
                            (if (a0.size : Int) < y1.2.2.2 then (a0.size : Int) else y1.2.2.2) ≤ (a0.size : Int) ∧
                            pTrim (a0.extract y1.2.1.toNat (if (a0.size : Int) < y1.2.2.2 then (a0.size : Int) else y1.2.2.2).toNat) ∧
                            ((mTrim (a0.extract y1.2.1.toNat (if (a0.size : Int) < y1.2.2.2 then (a0.size : Int) else y1.2.2.2).toNat)) ≠ (lit []) →
                              (y1.1.length + [(mTrim (a0.extract y1.2.1.toNat (if (a0.size : Int) < y1.2.2.2 then (a0.size : Int) else y1.2.2.2).toNat))].length) * 16 ≤ 140737488355328 ∧
                              (L0 ((y1.1 ++ [(mTrim (a0.extract y1.2.1.toNat (if (a0.size : Int) < y1.2.2.2 then (a0.size : Int) else y1.2.2.2).toNat))]), (IntKind.i64.wrap (y1.2.2.2 + 1)), y1.2.2.1, (IntKind.i64.wrap (y1.2.2.2 + 1))))) ∧
                            (¬ ((mTrim (a0.extract y1.2.1.toNat (if (a0.size : Int) < y1.2.2.2 then (a0.size : Int) else y1.2.2.2).toNat)) ≠ (lit [])) →
                              (L0 (y1.1, (IntKind.i64.wrap (y1.2.2.2 + 1)), y1.2.2.1, (IntKind.i64.wrap (y1.2.2.2 + 1)))))) ∧
                          (¬ (¬ (y1.2.2.1 = true)) →
                            (L0 (y1.1, y1.2.1, y1.2.2.1, (IntKind.i64.wrap (y1.2.2.2 + 1)))))) ∧
                        (¬ ((bt a0 y1.2.2.2) = 44) →
                          (L0 (y1.1, y1.2.1, y1.2.2.1, (IntKind.i64.wrap (y1.2.2.2 + 1)))))))) ∧
                  (¬ (y1.2.2.2 < (a0.size : Int)) →
                    ((a0.size : Int) ≤ y1.2.2.2 →
                      0 ≤ y1.2.1 ∧
                      y1.2.1 ≤ (if (a0.size : Int) < y1.2.2.2 then (a0.size : Int) else y1.2.2.2) ∧
                      (if (a0.size : Int) < y1.2.2.2 then (a0.size : Int) else y1.2.2.2) ≤ (a0.size : Int) ∧
                      pTrim (a0.extract y1.2.1.toNat (if (a0.size : Int) < y1.2.2.2 then (a0.size : Int) else y1.2.2.2).toNat) ∧
                      ((mTrim (a0.extract y1.2.1.toNat (if (a0.size : Int) < y1.2.2.2 then (a0.size : Int) else y1.2.2.2).toNat)) ≠ (lit []) →
                        (y1.1.length + [(mTrim (a0.extract y1.2.1.toNat (if (a0.size : Int) < y1.2.2.2 then (a0.size : Int) else y1.2.2.2).toNat))].length) * 16 ≤ 140737488355328 ∧
                        (L0 ((y1.1 ++ [(mTrim (a0.extract y1.2.1.toNat (if (a0.size : Int) < y1.2.2.2 then (a0.size : Int) else y1.2.2.2).toNat))]), (IntKind.i64.wrap (y1.2.2.2 + 1)), y1.2.2.1, (IntKind.i64.wrap (y1.2.2.2 + 1))))) ∧
                      (¬ ((mTrim (a0.extract y1.2.1.toNat (if (a0.size : Int) < y1.2.2.2 then (a0.size : Int) else y1.2.2.2).toNat)) ≠ (lit [])) →
                        (L0 (y1.1, (IntKind.i64.wrap (y1.2.2.2 + 1)), y1.2.2.1, (IntKind.i64.wrap (y1.2.2.2 + 1)))))) ∧
                    (¬ ((a0.size : Int) ≤ y1.2.2.2) →
                      0 ≤ y1.2.2.2 ∧
                      y1.2.2.2 < (a0.size : Int) ∧
                      ((bt a0 y1.2.2.2) = 44 →
                        (¬ (y1.2.2.1 = true) →
                          0 ≤ y1.2.1 ∧
                          y1.2.1 ≤ (if (a0.size : Int) < y1.2.2.2 then (a0.size : Int) else y1.2.2.2) ∧
                          (if (a0.size : Int) < y1.2.2.2 then (a0.size : Int) else y1.2.2.2) ≤ (a0.size : Int) ∧
                          pTrim (a0.extract y1.2.1.toNat (if (a0.size : Int) < y1.2.2.2 then (a0.size : Int) else y1.2.2.2).toNat) ∧
                          ((mTrim (a0.extract y1.2.1.toNat (if (a0.size : Int) < y1.2.2.2 then (a0.size : Int) else y1.2.2.2).toNat)) ≠ (lit []) →
                            (y1.1.length + [(mTrim (a0.extract y1.2.1.toNat (if (a0.size : Int) < y1.2.2.2 then (a0.size : Int) else y1.2.2.2).toNat))].length) * 16 ≤ 140737488355328 ∧
                            (L0 ((y1.1 ++ [(mTrim (a0.extract y1.2.1.toNat (if (a0.size : Int) < y1.2.2.2 then (a0.size : Int) else y1.2.2.2).toNat))]), (IntKind.i64.wrap (y1.2.2.2 + 1)), y1.2.2.1, (IntKind.i64.wrap (y1.2.2.2 + 1))))) ∧
                          (¬ ((mTrim (a0.extract y1.2.1.toNat (if (a0.size : Int) < y1.2.2.2 then (a0.size : Int) else y1.2.2.2).toNat)) ≠ (lit [])) →
                            (L0 (y1.1, (IntKind.i64.wrap (y1.2.2.2 + 1)), y1.2.2.1, (IntKind.i64.wrap (y1.2.2.2 + 1)))))) ∧
                        (¬ (¬ (y1.2.2.1 = true)) →
                          (L0 (y1.1, y1.2.1, y1.2.2.1, (IntKind.i64.wrap (y1.2.2.2 + 1)))))) ∧
                      (¬ ((bt a0 y1.2.2.2) = 44) →
                        (L0 (y1.1, y1.2.1, y1.2.2.1, (IntKind.i64.wrap (y1.2.2.2 + 1))))))))) ∧
              (¬ (y1.2.2.2 ≤ (a0.size : Int)) →
                (y1.2.1 < (a0.size : Int) →
                  (y1.2.2.1 = true →
                    0 ≤ y1.2.1 ∧
                    y1.2.1 ≤ (a0.size : Int) ∧
                    pTrim (a0.extract y1.2.1.toNat a0.size) ∧
                    ((mTrim (a0.extract y1.2.1.toNat a0.size)) ≠ (lit []) →
                      (y1.1.length + [(mTrim (a0.extract y1.2.1.toNat a0.size))].length) * 16 ≤ 140737488355328 ∧
                      (Q (y1.1 ++ [(mTrim (a0.extract y1.2.1.toNat a0.size))]))) ∧
                    (¬ ((mTrim (a0.extract y1.2.1.toNat a0.size)) ≠ (lit [])) →
                      (Q y1.1))) ∧
                  (¬ (y1.2.2.1 = true) →
                    (Q y1.1))) ∧
                (¬ (y1.2.1 < (a0.size : Int)) →
                  (Q y1.1)))
            ) →
            (L0 y1)))
      ) →
      (L0 ([], 0, false, 0))))

def s_spec_Storable (a0 : Req) (a1 : Rsp) (Q : (Bool → Prop)) : Prop :=
  (a0.1 ≠ (lit [71, 69, 84]) →
    (Q false)) ∧
  (¬ (a0.1 ≠ (lit [71, 69, 84])) →
    (a1.1 = 304 →
      (Q false)) ∧
    (¬ (a1.1 = 304) →
      pResponseOk a1 ∧
      (¬ ((mResponseOk a1) = true) →
        (Q false)) ∧
      (¬ (¬ ((mResponseOk a1) = true)) →
        pCcHas a0.2.2.1 (lit [110, 111, 45, 115, 116, 111, 114, 101]) ∧
        ((mCcHas a0.2.2.1 (lit [110, 111, 45, 115, 116, 111, 114, 101])) = true →
          (Q false)) ∧
        (¬ ((mCcHas a0.2.2.1 (lit [110, 111, 45, 115, 116, 111, 114, 101])) = true) →
          pCcHas a1.2.1 (lit [110, 111, 45, 115, 116, 111, 114, 101]) ∧
          ((mCcHas a1.2.1 (lit [110, 111, 45, 115, 116, 111, 114, 101])) = true →
            (Q false)) ∧
          (¬ ((mCcHas a1.2.1 (lit [110, 111, 45, 115, 116, 111, 114, 101])) = true) →
            pCcHas a1.2.1 (lit [112, 114, 105, 118, 97, 116, 101]) ∧
            ((mCcHas a1.2.1 (lit [112, 114, 105, 118, 97, 116, 101])) = true →
              (Q false)) ∧
            (¬ ((mCcHas a1.2.1 (lit [112, 114, 105, 118, 97, 116, 101])) = true) →
              pFieldGet a1.2.1 (lit [118, 97, 114, 121]) ∧
              pSplitList (mFieldGet a1.2.1 (lit [118, 97, 114, 121])).1 ∧
              (∀ L0 : (Int → Prop),
                ((
                    (∀ y1 : Int,
                      ((
                          (y1 < ((mSplitList (mFieldGet a1.2.1 (lit [118, 97, 114, 121])).1).length : Int) →
                            0 ≤ y1 ∧
                            y1 < ((mSplitList (mFieldGet a1.2.1 (lit [118, 97, 114, 121])).1).length : Int) ∧
                            ((rx (mSplitList (mFieldGet a1.2.1 (lit [118, 97, 114, 121])).1) y1) = (lit [42]) →
                              (Q false)) ∧
                            (¬ ((rx (mSplitList (mFieldGet a1.2.1 (lit [118, 97, 114, 121])).1) y1) = (lit [42])) →
                              (L0 (IntKind.i64.wrap (y1 + 1))))) ∧
                          (¬ (y1 < ((mSplitList (mFieldGet a1.2.1 (lit [118, 97, 114, 121])).1).length : Int)) →
                            pFieldGet a0.2.2.1 (lit [97, 117, 116, 104, 111, 114, 105, 122, 97, 116, 105, 111, 110]) ∧
                            ((mFieldGet a0.2.2.1 (lit [97, 117, 116, 104, 111, 114, 105, 122, 97, 116, 105, 111, 110])).2 = true →
                              pCcHas a1.2.1 (lit [112, 117, 98, 108, 105, 99]) ∧
                              (¬ ((mCcHas a1.2.1 (lit [112, 117, 98, 108, 105, 99])) = true) →
                                pCcHas a1.2.1 (lit [115, 45, 109, 97, 120, 97, 103, 101]) ∧
                                (¬ ((mCcHas a1.2.1 (lit [115, 45, 109, 97, 120, 97, 103, 101])) = true) →
                                  pCcHas a1.2.1 (lit [109, 117, 115, 116, 45, 114, 101, 118, 97, 108, 105, 100, 97, 116, 101]) ∧
                                  (¬ ((mCcHas a1.2.1 (lit [109, 117, 115, 116, 45, 114, 101, 118, 97, 108, 105, 100, 97, 116, 101])) = true) →
                                    (Q false)) ∧
                                  (¬ (¬ ((mCcHas a1.2.1 (lit [109, 117, 115, 116, 45, 114, 101, 118, 97, 108, 105, 100, 97, 116, 101])) = true)) →
                                    pFieldGet a1.2.1 (lit [101, 120, 112, 105, 114, 101, 115]) ∧
                                    pCcHas a1.2.1 (lit [112, 117, 98, 108, 105, 99]) ∧
                                    ((mCcHas a1.2.1 (lit [112, 117, 98, 108, 105, 99])) = true →
                                      (Q true)) ∧
                                    (¬ ((mCcHas a1.2.1 (lit [112, 117, 98, 108, 105, 99])) = true) →
                                      pCcHas a1.2.1 (lit [109, 97, 120, 45, 97, 103, 101]) ∧
                                      ((mCcHas a1.2.1 (lit [109, 97, 120, 45, 97, 103, 101])) = true →
                                        (Q true)) ∧
                                      (¬ ((mCcHas a1.2.1 (lit [109, 97, 120, 45, 97, 103, 101])) = true) →
                                        pCcHas a1.2.1 (lit [115, 45, 109, 97, 120, 97, 103, 101]) ∧
                                        ((mCcHas a1.2.1 (lit [115, 45, 109, 97, 120, 97, 103, 101])) = true →
                                          (Q true)) ∧
                                        (¬ ((mCcHas a1.2.1 (lit [115, 45, 109, 97, 120, 97, 103, 101])) = true) →
                                          ((mFieldGet a1.2.1 (lit [101, 120, 112, 105, 114, 101, 115])).2 = true →
                                            (Q true)) ∧
                                          (¬ ((mFieldGet a1.2.1 (lit [101, 120, 112, 105, 114, 101, 115])).2 = true) →
                                            pHeuristic a1.1 ∧
                                            (Q (mHeuristic a1.1)))))))) ∧
                                (¬ (¬ ((mCcHas a1.2.1 (lit [115, 45, 109, 97, 120, 97, 103, 101])) = true)) →
                                  pFieldGet a1.2.1 (lit [101, 120, 112, 105, 114, 101, 115]) ∧
                                  pCcHas a1.2.1 (lit [112, 117, 98, 108, 105, 99]) ∧
                                  ((mCcHas a1.2.1 (lit [112, 117, 98, 108, 105, 99])) = true →
                                    (Q true)) ∧
                                  (¬ ((mCcHas a1.2.1 (lit [112, 117, 98, 108, 105, 99])) = true) →
                                    pCcHas a1.2.1 (lit [109, 97, 120, 45, 97, 103, 101]) ∧
                                    ((mCcHas a1.2.1 (lit [109, 97, 120, 45, 97, 103, 101])) = true →
                                      (Q true)) ∧
                                    (¬ ((mCcHas a1.2.1 (lit [109, 97, 120, 45, 97, 103, 101])) = true) →
                                      pCcHas a1.2.1 (lit [115, 45, 109, 97, 120, 97, 103, 101]) ∧
                                      ((mCcHas a1.2.1 (lit [115, 45, 109, 97, 120, 97, 103, 101])) = true →
                                        (Q true)) ∧
                                      (¬ ((mCcHas a1.2.1 (lit [115, 45, 109, 97, 120, 97, 103, 101])) = true) →
                                        ((mFieldGet a1.2.1 (lit [101, 120, 112, 105, 114, 101, 115])).2 = true →
                                          (Q true)) ∧
                                        (¬ ((mFieldGet a1.2.1 (lit [101, 120, 112, 105, 114, 101, 115])).2 = true) →
                                          pHeuristic a1.1 ∧
                                          (Q (mHeuristic a1.1)))))))) ∧
                              (¬ (¬ ((mCcHas a1.2.1 (lit [112, 117, 98, 108, 105, 99])) = true)) →
                                pFieldGet a1.2.1 (lit [101, 120, 112, 105, 114, 101, 115]) ∧
                                pCcHas a1.2.1 (lit [112, 117, 98, 108, 105, 99]) ∧
                                ((mCcHas a1.2.1 (lit [112, 117, 98, 108, 105, 99])) = true →
                                  (Q true)) ∧
                                (¬ ((mCcHas a1.2.1 (lit [112, 117, 98, 108, 105, 99])) = true) →
                                  pCcHas a1.2.1 (lit [109, 97, 120, 45, 97, 103, 101]) ∧
                                  ((mCcHas a1.2.1 (lit [109, 97, 120, 45, 97, 103, 101])) = true →
                                    (Q true)) ∧
                                  (¬ ((mCcHas a1.2.1 (lit [109, 97, 120, 45, 97, 103, 101])) = true) →
                                    pCcHas a1.2.1 (lit [115, 45, 109, 97, 120, 97, 103, 101]) ∧
                                    ((mCcHas a1.2.1 (lit [115, 45, 109, 97, 120, 97, 103, 101])) = true →
                                      (Q true)) ∧
                                    (¬ ((mCcHas a1.2.1 (lit [115, 45, 109, 97, 120, 97, 103, 101])) = true) →
                                      ((mFieldGet a1.2.1 (lit [101, 120, 112, 105, 114, 101, 115])).2 = true →
                                        (Q true)) ∧
                                      (¬ ((mFieldGet a1.2.1 (lit [101, 120, 112, 105, 114, 101, 115])).2 = true) →
                                        pHeuristic a1.1 ∧
                                        (Q (mHeuristic a1.1)))))))) ∧
                            (¬ ((mFieldGet a0.2.2.1 (lit [97, 117, 116, 104, 111, 114, 105, 122, 97, 116, 105, 111, 110])).2 = true) →
                              pFieldGet a1.2.1 (lit [101, 120, 112, 105, 114, 101, 115]) ∧
                              pCcHas a1.2.1 (lit [112, 117, 98, 108, 105, 99]) ∧
                              ((mCcHas a1.2.1 (lit [112, 117, 98, 108, 105, 99])) = true →
                                (Q true)) ∧
                              (¬ ((mCcHas a1.2.1 (lit [112, 117, 98, 108, 105, 99])) = true) →
                                pCcHas a1.2.1 (lit [109, 97, 120, 45, 97, 103, 101]) ∧
                                ((mCcHas a1.2.1 (lit [109, 97, 120, 45, 97, 103, 101])) = true →
                                  (Q true)) ∧
                                (¬ ((mCcHas a1.2.1 (lit [109, 97, 120, 45, 97, 103, 101])) = true) →
                                  pCcHas a1.2.1 (lit [115, 45, 109, 97, 120, 97, 103, 101]) ∧
                                  ((mCcHas a1.2.1 (lit [115, 45, 109, 97, 120, 97, 103, 101])) = true →
                                    (Q true)) ∧
                                  (¬ ((mCcHas a1.2.1 (lit [115, 45, 109, 97, 120, 97, 103, 101])) = true) →
                                    ((mFieldGet a1.2.1 (lit [101, 120, 112, 105, 114, 101, 115])).2 = true →
                                      (Q true)) ∧
                                    (¬ ((mFieldGet a1.2.1 (lit [101, 120, 112, 105, 114, 101, 115])).2 = true) →
                                      pHeuristic a1.1 ∧
                                      (Q (mHeuristic a1.1))))))))
                        ) →
                        (L0 y1)))
                  ) →
                  (L0 0)))))))))

def s_spec_StoredOk (a0 : Sto) (Q : (Bool → Prop)) : Prop :=
  pUriOk a0.1 ∧
  ((mUriOk a0.1) = true →
    pResponseOk (a0.2.2.1, a0.2.2.2.1, a0.2.2.2.2.1) ∧
    ((mResponseOk (a0.2.2.1, a0.2.2.2.1, a0.2.2.2.2.1)) = true →
      pIn a0.2.2.2.2.2.1 0 2000000000 ∧
      ((mIn a0.2.2.2.2.2.1 0 2000000000) = true →
        pIn a0.2.2.2.2.2.2 a0.2.2.2.2.2.1 2000000000 ∧
        ((mIn a0.2.2.2.2.2.2 a0.2.2.2.2.2.1 2000000000) = true →
          (Q (decide ((a0.2.1.length : Int) ≤ 12)))) ∧
        (¬ ((mIn a0.2.2.2.2.2.2 a0.2.2.2.2.2.1 2000000000) = true) →
          (Q false))) ∧
      (¬ ((mIn a0.2.2.2.2.2.1 0 2000000000) = true) →
        (Q false))) ∧
    (¬ ((mResponseOk (a0.2.2.1, a0.2.2.2.1, a0.2.2.2.2.1)) = true) →
      (Q false))) ∧
  (¬ ((mUriOk a0.1) = true) →
    (Q false))

def s_spec_TagOf (a0 : Int) (Q : (S → Prop)) : Prop :=
  pIn a0 1 100000 ∧
  (¬ ((mIn a0 1 100000) = true) →
    (Q (lit []))) ∧
  (¬ (¬ ((mIn a0 1 100000) = true)) →
    pDec a0 ∧
    (lit [34, 118]).size + (mDec a0).size ≤ 9223372036854775807 ∧
    ((lit [34, 118]) ++ (mDec a0)).size + (lit [34]).size ≤ 9223372036854775807 ∧
    (Q (((lit [34, 118]) ++ (mDec a0)) ++ (lit [34]))))

def s_spec_Trim (a0 : S) (Q : (S → Prop)) : Prop :=
  (∀ L0 : (S → Prop),
    ((
        (∀ y1 : S,
          ((
              (0 < (y1.size : Int) →
                (0 : Int) ≤ 0 ∧
                0 < (y1.size : Int) ∧
                pBlank (bt y1 0) ∧
                ((mBlank (bt y1 0)) = true →
                  (0 : Int) ≤ 1 ∧
                  1 ≤ (y1.size : Int) ∧
                  (L0 (y1.extract ((1 : Int).toNat) y1.size))) ∧
                (¬ ((mBlank (bt y1 0)) = true) →
                  (∀ L2 : (S → Prop),
                    ((
                        (∀ y3 : S,
                          ((
                              (0 < (y3.size : Int) →
                                0 ≤ (IntKind.i64.wrap ((y3.size : Int) - 1)) ∧
                                (IntKind.i64.wrap ((y3.size : Int) - 1)) < (y3.size : Int) ∧
                                pBlank (bt y3 (IntKind.i64.wrap ((y3.size : Int) - 1))) ∧
                                ((mBlank (bt y3 (IntKind.i64.wrap ((y3.size : Int) - 1)))) = true →
                                  0 ≤ (IntKind.i64.wrap ((y3.size : Int) - 1)) ∧
                                  (IntKind.i64.wrap ((y3.size : Int) - 1)) ≤ (y3.size : Int) ∧
                                  (L2 (y3.extract 0 (IntKind.i64.wrap ((y3.size : Int) - 1)).toNat))) ∧
                                (¬ ((mBlank (bt y3 (IntKind.i64.wrap ((y3.size : Int) - 1)))) = true) →
                                  (Q y3))) ∧
                              (¬ (0 < (y3.size : Int)) →
                                (Q y3))
                            ) →
                            (L2 y3)))
                      ) →
                      (L2 y1))))) ∧
              (¬ (0 < (y1.size : Int)) →
                (∀ L4 : (S → Prop),
                  ((
                      (∀ y5 : S,
                        ((
                            (0 < (y5.size : Int) →
                              0 ≤ (IntKind.i64.wrap ((y5.size : Int) - 1)) ∧
                              (IntKind.i64.wrap ((y5.size : Int) - 1)) < (y5.size : Int) ∧
                              pBlank (bt y5 (IntKind.i64.wrap ((y5.size : Int) - 1))) ∧
                              ((mBlank (bt y5 (IntKind.i64.wrap ((y5.size : Int) - 1)))) = true →
                                0 ≤ (IntKind.i64.wrap ((y5.size : Int) - 1)) ∧
                                (IntKind.i64.wrap ((y5.size : Int) - 1)) ≤ (y5.size : Int) ∧
                                (L4 (y5.extract 0 (IntKind.i64.wrap ((y5.size : Int) - 1)).toNat))) ∧
                              (¬ ((mBlank (bt y5 (IntKind.i64.wrap ((y5.size : Int) - 1)))) = true) →
                                (Q y5))) ∧
                            (¬ (0 < (y5.size : Int)) →
                              (Q y5))
                          ) →
                          (L4 y5)))
                    ) →
                    (L4 y1))))
            ) →
            (L0 y1)))
      ) →
      (L0 a0)))

def s_spec_UriOk (a0 : S) (Q : (Bool → Prop)) : Prop :=
  (∀ L0 : (Int → Prop),
    ((
        (∀ y1 : Int,
          ((
              (y1 < (a0.size : Int) →
                0 ≤ y1 ∧
                y1 < (a0.size : Int) ∧
                ((bt a0 y1) ≤ 32 →
                  (Q false)) ∧
                (¬ ((bt a0 y1) ≤ 32) →
                  0 ≤ y1 ∧
                  y1 < (a0.size : Int) ∧
                  (127 ≤ (bt a0 y1) →
                    (Q false)) ∧
                  (¬ (127 ≤ (bt a0 y1)) →
                    (L0 (IntKind.i64.wrap (y1 + 1)))))) ∧
              (¬ (y1 < (a0.size : Int)) →
                pIn (a0.size : Int) 1 20 ∧
                ((mIn (a0.size : Int) 1 20) = true →
                  (0 : Int) ≤ 0 ∧
                  0 < (a0.size : Int) ∧
                  (Q (decide ((bt a0 0) = 47)))) ∧
                (¬ ((mIn (a0.size : Int) 1 20) = true) →
                  (Q false)))
            ) →
            (L0 y1)))
      ) →
      (L0 0)))

def s_spec_VaryFits (a0 : Req) (a1 : Rsp) (a2 : (List Fld)) (Q : (Bool → Prop)) : Prop :=
  pPicked a0 a1 ∧
  pSameFields (mPicked a0 a1) a2 ∧
  (Q (mSameFields (mPicked a0 a1) a2))

def s_spec_VaryNames (a0 : Rsp) (Q : ((List S) → Prop)) : Prop :=
  pFieldGet a0.2.1 (lit [118, 97, 114, 121]) ∧
  pSplitList (mFieldGet a0.2.1 (lit [118, 97, 114, 121])).1 ∧
  (∀ L0 : (((List S) × Int) → Prop),
    ((
        (∀ y1 : ((List S) × Int),
          ((
              (y1.2 < ((mSplitList (mFieldGet a0.2.1 (lit [118, 97, 114, 121])).1).length : Int) →
                0 ≤ y1.2 ∧
                y1.2 < ((mSplitList (mFieldGet a0.2.1 (lit [118, 97, 114, 121])).1).length : Int) ∧
                pLower (rx (mSplitList (mFieldGet a0.2.1 (lit [118, 97, 114, 121])).1) y1.2) ∧
                (∀ L2 : ((Bool × Int) → Prop),
                  ((
                      (∀ y3 : (Bool × Int),
                        ((
                            (y3.2 < (y1.1.length : Int) →
                              (y3.1 = true →
                                (L2 (true, (IntKind.i64.wrap (y3.2 + 1))))) ∧
                              (¬ (y3.1 = true) →
                                0 ≤ y3.2 ∧
                                y3.2 < (y1.1.length : Int) ∧
                                (L2 ((decide ((rx y1.1 y3.2) = (mLower (rx (mSplitList (mFieldGet a0.2.1 (lit [118, 97, 114, 121])).1) y1.2)))), (IntKind.i64.wrap (y3.2 + 1)))))) ∧
                            (¬ (y3.2 < (y1.1.length : Int)) →
                              (¬ (y3.1 = true) →
                                (y1.1.length + [(mLower (rx (mSplitList (mFieldGet a0.2.1 (lit [118, 97, 114, 121])).1) y1.2))].length) * 16 ≤ 140737488355328 ∧
                                (L0 ((y1.1 ++ [(mLower (rx (mSplitList (mFieldGet a0.2.1 (lit [118, 97, 114, 121])).1) y1.2))]), (IntKind.i64.wrap (y1.2 + 1))))) ∧
                              (¬ (¬ (y3.1 = true)) →
                                (L0 (y1.1, (IntKind.i64.wrap (y1.2 + 1))))))
                          ) →
                          (L2 y3)))
                    ) →
                    (L2 (false, 0))))) ∧
              (¬ (y1.2 < ((mSplitList (mFieldGet a0.2.1 (lit [118, 97, 114, 121])).1).length : Int)) →
                (Q y1.1))
            ) →
            (L0 y1)))
      ) →
      (L0 ([], 0))))

def s_spec_VersionIn (a0 : Rsp) (Q : (Int → Prop)) : Prop :=
  pFieldGet a0.2.1 (lit [101, 116, 97, 103]) ∧
  (((mFieldGet a0.2.1 (lit [101, 116, 97, 103])).1.size : Int) < 4 →
    (Q 0)) ∧
  (¬ (((mFieldGet a0.2.1 (lit [101, 116, 97, 103])).1.size : Int) < 4) →
    (0 : Int) ≤ 2 ∧
    2 ≤ (IntKind.i64.wrap (((mFieldGet a0.2.1 (lit [101, 116, 97, 103])).1.size : Int) - 1)) ∧
    (IntKind.i64.wrap (((mFieldGet a0.2.1 (lit [101, 116, 97, 103])).1.size : Int) - 1)) ≤ ((mFieldGet a0.2.1 (lit [101, 116, 97, 103])).1.size : Int) ∧
    pReadDec ((mFieldGet a0.2.1 (lit [101, 116, 97, 103])).1.extract ((2 : Int).toNat) (IntKind.i64.wrap (((mFieldGet a0.2.1 (lit [101, 116, 97, 103])).1.size : Int) - 1)).toNat) ∧
    (¬ ((mReadDec ((mFieldGet a0.2.1 (lit [101, 116, 97, 103])).1.extract ((2 : Int).toNat) (IntKind.i64.wrap (((mFieldGet a0.2.1 (lit [101, 116, 97, 103])).1.size : Int) - 1)).toNat)).2 = true) →
      (Q 0)) ∧
    (¬ (¬ ((mReadDec ((mFieldGet a0.2.1 (lit [101, 116, 97, 103])).1.extract ((2 : Int).toNat) (IntKind.i64.wrap (((mFieldGet a0.2.1 (lit [101, 116, 97, 103])).1.size : Int) - 1)).toNat)).2 = true)) →
      pTagOf (mReadDec ((mFieldGet a0.2.1 (lit [101, 116, 97, 103])).1.extract ((2 : Int).toNat) (IntKind.i64.wrap (((mFieldGet a0.2.1 (lit [101, 116, 97, 103])).1.size : Int) - 1)).toNat)).1 ∧
      ((mTagOf (mReadDec ((mFieldGet a0.2.1 (lit [101, 116, 97, 103])).1.extract ((2 : Int).toNat) (IntKind.i64.wrap (((mFieldGet a0.2.1 (lit [101, 116, 97, 103])).1.size : Int) - 1)).toNat)).1) ≠ (mFieldGet a0.2.1 (lit [101, 116, 97, 103])).1 →
        (Q 0)) ∧
      (¬ ((mTagOf (mReadDec ((mFieldGet a0.2.1 (lit [101, 116, 97, 103])).1.extract ((2 : Int).toNat) (IntKind.i64.wrap (((mFieldGet a0.2.1 (lit [101, 116, 97, 103])).1.size : Int) - 1)).toNat)).1) ≠ (mFieldGet a0.2.1 (lit [101, 116, 97, 103])).1) →
        (Q (mReadDec ((mFieldGet a0.2.1 (lit [101, 116, 97, 103])).1.extract ((2 : Int).toNat) (IntKind.i64.wrap (((mFieldGet a0.2.1 (lit [101, 116, 97, 103])).1.size : Int) - 1)).toNat)).1))))

def s_spec_l12Filled (a0 : Shd) (Q : (Int → Prop)) : Prop :=
  (∀ L0 : ((Int × Int) → Prop),
    ((
        (∀ y1 : (Int × Int),
          ((
              (y1.2 < (a0.2.2.1.length : Int) →
                0 ≤ y1.2 ∧
                y1.2 < (a0.2.2.1.length : Int) ∧
                (L0 ((IntKind.i64.wrap (y1.1 + ((rx a0.2.2.1 y1.2).2.2.2.2.1.size : Int))), (IntKind.i64.wrap (y1.2 + 1))))) ∧
              (¬ (y1.2 < (a0.2.2.1.length : Int)) →
                (Q y1.1))
            ) →
            (L0 y1)))
      ) →
      (L0 (0, 0))))

def s_spec_l12Same (a0 : Sto) (a1 : Sto) (Q : (Bool → Prop)) : Prop :=
  (a0.1 = a1.1 →
    pSameFields a0.2.1 a1.2.1 ∧
    (Q (mSameFields a0.2.1 a1.2.1))) ∧
  (¬ (a0.1 = a1.1) →
    (Q false))

def s_spec_l16Own (a0 : Req) (Q : (Bool → Prop)) : Prop :=
  pFieldGet a0.2.2.1 (lit [97, 117, 116, 104, 111, 114, 105, 122, 97, 116, 105, 111, 110]) ∧
  pFieldGet a0.2.2.1 (lit [105, 102, 45, 110, 111, 110, 101, 45, 109, 97, 116, 99, 104]) ∧
  pFieldGet a0.2.2.1 (lit [105, 102, 45, 109, 111, 100, 105, 102, 105, 101, 100, 45, 115, 105, 110, 99, 101]) ∧
  (a0.1 ≠ (lit [71, 69, 84]) →
    (Q true)) ∧
  (¬ (a0.1 ≠ (lit [71, 69, 84])) →
    ((mFieldGet a0.2.2.1 (lit [97, 117, 116, 104, 111, 114, 105, 122, 97, 116, 105, 111, 110])).2 = true →
      (Q true)) ∧
    (¬ ((mFieldGet a0.2.2.1 (lit [97, 117, 116, 104, 111, 114, 105, 122, 97, 116, 105, 111, 110])).2 = true) →
      ((mFieldGet a0.2.2.1 (lit [105, 102, 45, 110, 111, 110, 101, 45, 109, 97, 116, 99, 104])).2 = true →
        (Q true)) ∧
      (¬ ((mFieldGet a0.2.2.1 (lit [105, 102, 45, 110, 111, 110, 101, 45, 109, 97, 116, 99, 104])).2 = true) →
        ((mFieldGet a0.2.2.1 (lit [105, 102, 45, 109, 111, 100, 105, 102, 105, 101, 100, 45, 115, 105, 110, 99, 101])).2 = true →
          (Q true)) ∧
        (¬ ((mFieldGet a0.2.2.1 (lit [105, 102, 45, 109, 111, 100, 105, 102, 105, 101, 100, 45, 115, 105, 110, 99, 101])).2 = true) →
          pCcHas a0.2.2.1 (lit [110, 111, 45, 115, 116, 111, 114, 101]) ∧
          ((mCcHas a0.2.2.1 (lit [110, 111, 45, 115, 116, 111, 114, 101])) = true →
            (Q true)) ∧
          (¬ ((mCcHas a0.2.2.1 (lit [110, 111, 45, 115, 116, 111, 114, 101])) = true) →
            pCcHas a0.2.2.1 (lit [110, 111, 45, 99, 97, 99, 104, 101]) ∧
            (Q (mCcHas a0.2.2.1 (lit [110, 111, 45, 99, 97, 99, 104, 101]))))))))

def s_spec_l1In (a0 : Int) (a1 : Int) (a2 : Int) (Q : (Bool → Prop)) : Prop :=
  (a1 ≤ a0 →
    (Q (decide (a0 ≤ a2)))) ∧
  (¬ (a1 ≤ a0) →
    (Q false))

def s_spec_l2Blank (a0 : Int) (Q : (Bool → Prop)) : Prop :=
  (a0 = 32 →
    (Q true)) ∧
  (¬ (a0 = 32) →
    (Q (decide (a0 = 9))))

def s_spec_l2Token (a0 : Int) (Q : (Bool → Prop)) : Prop :=
  (97 ≤ a0 →
    (a0 ≤ 122 →
      (Q true)) ∧
    (¬ (a0 ≤ 122) →
      (65 ≤ a0 →
        (a0 ≤ 90 →
          (Q true)) ∧
        (¬ (a0 ≤ 90) →
          (48 ≤ a0 →
            (a0 ≤ 57 →
              (Q true)) ∧
            (¬ (a0 ≤ 57) →
              (a0 = 33 →
                (Q true)) ∧
              (¬ (a0 = 33) →
                (a0 = 35 →
                  (Q true)) ∧
                (¬ (a0 = 35) →
                  (a0 = 36 →
                    (Q true)) ∧
                  (¬ (a0 = 36) →
                    (a0 = 37 →
                      (Q true)) ∧
                    (¬ (a0 = 37) →
                      (a0 = 38 →
                        (Q true)) ∧
                      (¬ (a0 = 38) →
                        (a0 = 39 →
                          (Q true)) ∧
                        (¬ (a0 = 39) →
                          (a0 = 42 →
                            (Q true)) ∧
                          (¬ (a0 = 42) →
                            (a0 = 43 →
                              (Q true)) ∧
                            (¬ (a0 = 43) →
                              (a0 = 45 →
                                (Q true)) ∧
                              (¬ (a0 = 45) →
                                (a0 = 46 →
                                  (Q true)) ∧
                                (¬ (a0 = 46) →
                                  (a0 = 94 →
                                    (Q true)) ∧
                                  (¬ (a0 = 94) →
                                    (a0 = 95 →
                                      (Q true)) ∧
                                    (¬ (a0 = 95) →
                                      (a0 = 96 →
                                        (Q true)) ∧
                                      (¬ (a0 = 96) →
                                        (a0 = 124 →
                                          (Q true)) ∧
                                        (¬ (a0 = 124) →
                                          (Q (decide (a0 = 126))))))))))))))))))) ∧
          (¬ (48 ≤ a0) →
            (a0 = 33 →
              (Q true)) ∧
            (¬ (a0 = 33) →
              (a0 = 35 →
                (Q true)) ∧
              (¬ (a0 = 35) →
                (a0 = 36 →
                  (Q true)) ∧
                (¬ (a0 = 36) →
                  (a0 = 37 →
                    (Q true)) ∧
                  (¬ (a0 = 37) →
                    (a0 = 38 →
                      (Q true)) ∧
                    (¬ (a0 = 38) →
                      (a0 = 39 →
                        (Q true)) ∧
                      (¬ (a0 = 39) →
                        (a0 = 42 →
                          (Q true)) ∧
                        (¬ (a0 = 42) →
                          (a0 = 43 →
                            (Q true)) ∧
                          (¬ (a0 = 43) →
                            (a0 = 45 →
                              (Q true)) ∧
                            (¬ (a0 = 45) →
                              (a0 = 46 →
                                (Q true)) ∧
                              (¬ (a0 = 46) →
                                (a0 = 94 →
                                  (Q true)) ∧
                                (¬ (a0 = 94) →
                                  (a0 = 95 →
                                    (Q true)) ∧
                                  (¬ (a0 = 95) →
                                    (a0 = 96 →
                                      (Q true)) ∧
                                    (¬ (a0 = 96) →
                                      (a0 = 124 →
                                        (Q true)) ∧
                                      (¬ (a0 = 124) →
                                        (Q (decide (a0 = 126)))))))))))))))))))) ∧
      (¬ (65 ≤ a0) →
        (48 ≤ a0 →
          (a0 ≤ 57 →
            (Q true)) ∧
          (¬ (a0 ≤ 57) →
            (a0 = 33 →
              (Q true)) ∧
            (¬ (a0 = 33) →
              (a0 = 35 →
                (Q true)) ∧
              (¬ (a0 = 35) →
                (a0 = 36 →
                  (Q true)) ∧
                (¬ (a0 = 36) →
                  (a0 = 37 →
                    (Q true)) ∧
                  (¬ (a0 = 37) →
                    (a0 = 38 →
                      (Q true)) ∧
                    (¬ (a0 = 38) →
                      (a0 = 39 →
                        (Q true)) ∧
                      (¬ (a0 = 39) →
                        (a0 = 42 →
                          (Q true)) ∧
                        (¬ (a0 = 42) →
                          (a0 = 43 →
                            (Q true)) ∧
                          (¬ (a0 = 43) →
                            (a0 = 45 →
                              (Q true)) ∧
                            (¬ (a0 = 45) →
                              (a0 = 46 →
                                (Q true)) ∧
                              (¬ (a0 = 46) →
                                (a0 = 94 →
                                  (Q true)) ∧
                                (¬ (a0 = 94) →
                                  (a0 = 95 →
                                    (Q true)) ∧
                                  (¬ (a0 = 95) →
                                    (a0 = 96 →
                                      (Q true)) ∧
                                    (¬ (a0 = 96) →
                                      (a0 = 124 →
                                        (Q true)) ∧
                                      (¬ (a0 = 124) →
                                        (Q (decide (a0 = 126))))))))))))))))))) ∧
        (¬ (48 ≤ a0) →
          (a0 = 33 →
            (Q true)) ∧
          (¬ (a0 = 33) →
            (a0 = 35 →
              (Q true)) ∧
            (¬ (a0 = 35) →
              (a0 = 36 →
                (Q true)) ∧
              (¬ (a0 = 36) →
                (a0 = 37 →
                  (Q true)) ∧
                (¬ (a0 = 37) →
                  (a0 = 38 →
                    (Q true)) ∧
                  (¬ (a0 = 38) →
                    (a0 = 39 →
                      (Q true)) ∧
                    (¬ (a0 = 39) →
                      (a0 = 42 →
                        (Q true)) ∧
                      (¬ (a0 = 42) →
                        (a0 = 43 →
                          (Q true)) ∧
                        (¬ (a0 = 43) →
                          (a0 = 45 →
                            (Q true)) ∧
                          (¬ (a0 = 45) →
                            (a0 = 46 →
                              (Q true)) ∧
                            (¬ (a0 = 46) →
                              (a0 = 94 →
                                (Q true)) ∧
                              (¬ (a0 = 94) →
                                (a0 = 95 →
                                  (Q true)) ∧
                                (¬ (a0 = 95) →
                                  (a0 = 96 →
                                    (Q true)) ∧
                                  (¬ (a0 = 96) →
                                    (a0 = 124 →
                                      (Q true)) ∧
                                    (¬ (a0 = 124) →
                                      (Q (decide (a0 = 126))))))))))))))))))))) ∧
  (¬ (97 ≤ a0) →
    (65 ≤ a0 →
      (a0 ≤ 90 →
        (Q true)) ∧
      (¬ (a0 ≤ 90) →
        (48 ≤ a0 →
          (a0 ≤ 57 →
            (Q true)) ∧
          (¬ (a0 ≤ 57) →
            (a0 = 33 →
              (Q true)) ∧
            (¬ (a0 = 33) →
              (a0 = 35 →
                (Q true)) ∧
              (¬ (a0 = 35) →
                (a0 = 36 →
                  (Q true)) ∧
                (¬ (a0 = 36) →
                  (a0 = 37 →
                    (Q true)) ∧
                  (¬ (a0 = 37) →
                    (a0 = 38 →
                      (Q true)) ∧
                    (¬ (a0 = 38) →
                      (a0 = 39 →
                        (Q true)) ∧
                      (¬ (a0 = 39) →
                        (a0 = 42 →
                          (Q true)) ∧
                        (¬ (a0 = 42) →
                          (a0 = 43 →
                            (Q true)) ∧
                          (¬ (a0 = 43) →
                            (a0 = 45 →
                              (Q true)) ∧
                            (¬ (a0 = 45) →
                              (a0 = 46 →
                                (Q true)) ∧
                              (¬ (a0 = 46) →
                                (a0 = 94 →
                                  (Q true)) ∧
                                (¬ (a0 = 94) →
                                  (a0 = 95 →
                                    (Q true)) ∧
                                  (¬ (a0 = 95) →
                                    (a0 = 96 →
                                      (Q true)) ∧
                                    (¬ (a0 = 96) →
                                      (a0 = 124 →
                                        (Q true)) ∧
                                      (¬ (a0 = 124) →
                                        (Q (decide (a0 = 126))))))))))))))))))) ∧
        (¬ (48 ≤ a0) →
          (a0 = 33 →
            (Q true)) ∧
          (¬ (a0 = 33) →
            (a0 = 35 →
              (Q true)) ∧
            (¬ (a0 = 35) →
              (a0 = 36 →
                (Q true)) ∧
              (¬ (a0 = 36) →
                (a0 = 37 →
                  (Q true)) ∧
                (¬ (a0 = 37) →
                  (a0 = 38 →
                    (Q true)) ∧
                  (¬ (a0 = 38) →
                    (a0 = 39 →
                      (Q true)) ∧
                    (¬ (a0 = 39) →
                      (a0 = 42 →
                        (Q true)) ∧
                      (¬ (a0 = 42) →
                        (a0 = 43 →
                          (Q true)) ∧
                        (¬ (a0 = 43) →
                          (a0 = 45 →
                            (Q true)) ∧
                          (¬ (a0 = 45) →
                            (a0 = 46 →
                              (Q true)) ∧
                            (¬ (a0 = 46) →
                              (a0 = 94 →
                                (Q true)) ∧
                              (¬ (a0 = 94) →
                                (a0 = 95 →
                                  (Q true)) ∧
                                (¬ (a0 = 95) →
                                  (a0 = 96 →
                                    (Q true)) ∧
                                  (¬ (a0 = 96) →
                                    (a0 = 124 →
                                      (Q true)) ∧
                                    (¬ (a0 = 124) →
                                      (Q (decide (a0 = 126)))))))))))))))))))) ∧
    (¬ (65 ≤ a0) →
      (48 ≤ a0 →
        (a0 ≤ 57 →
          (Q true)) ∧
        (¬ (a0 ≤ 57) →
          (a0 = 33 →
            (Q true)) ∧
          (¬ (a0 = 33) →
            (a0 = 35 →
              (Q true)) ∧
            (¬ (a0 = 35) →
              (a0 = 36 →
                (Q true)) ∧
              (¬ (a0 = 36) →
                (a0 = 37 →
                  (Q true)) ∧
                (¬ (a0 = 37) →
                  (a0 = 38 →
                    (Q true)) ∧
                  (¬ (a0 = 38) →
                    (a0 = 39 →
                      (Q true)) ∧
                    (¬ (a0 = 39) →
                      (a0 = 42 →
                        (Q true)) ∧
                      (¬ (a0 = 42) →
                        (a0 = 43 →
                          (Q true)) ∧
                        (¬ (a0 = 43) →
                          (a0 = 45 →
                            (Q true)) ∧
                          (¬ (a0 = 45) →
                            (a0 = 46 →
                              (Q true)) ∧
                            (¬ (a0 = 46) →
                              (a0 = 94 →
                                (Q true)) ∧
                              (¬ (a0 = 94) →
                                (a0 = 95 →
                                  (Q true)) ∧
                                (¬ (a0 = 95) →
                                  (a0 = 96 →
                                    (Q true)) ∧
                                  (¬ (a0 = 96) →
                                    (a0 = 124 →
                                      (Q true)) ∧
                                    (¬ (a0 = 124) →
                                      (Q (decide (a0 = 126))))))))))))))))))) ∧
      (¬ (48 ≤ a0) →
        (a0 = 33 →
          (Q true)) ∧
        (¬ (a0 = 33) →
          (a0 = 35 →
            (Q true)) ∧
          (¬ (a0 = 35) →
            (a0 = 36 →
              (Q true)) ∧
            (¬ (a0 = 36) →
              (a0 = 37 →
                (Q true)) ∧
              (¬ (a0 = 37) →
                (a0 = 38 →
                  (Q true)) ∧
                (¬ (a0 = 38) →
                  (a0 = 39 →
                    (Q true)) ∧
                  (¬ (a0 = 39) →
                    (a0 = 42 →
                      (Q true)) ∧
                    (¬ (a0 = 42) →
                      (a0 = 43 →
                        (Q true)) ∧
                      (¬ (a0 = 43) →
                        (a0 = 45 →
                          (Q true)) ∧
                        (¬ (a0 = 45) →
                          (a0 = 46 →
                            (Q true)) ∧
                          (¬ (a0 = 46) →
                            (a0 = 94 →
                              (Q true)) ∧
                            (¬ (a0 = 94) →
                              (a0 = 95 →
                                (Q true)) ∧
                              (¬ (a0 = 95) →
                                (a0 = 96 →
                                  (Q true)) ∧
                                (¬ (a0 = 96) →
                                  (a0 = 124 →
                                    (Q true)) ∧
                                  (¬ (a0 = 124) →
                                    (Q (decide (a0 = 126))))))))))))))))))))

def s_spec_l3FieldOk (a0 : Fld) (Q : (Bool → Prop)) : Prop :=
  pIsTokenText a0.1 ∧
  ((mIsTokenText a0.1) = true →
    pLower a0.1 ∧
    (a0.1 = (mLower a0.1) →
      ((a0.1.size : Int) ≤ 24 →
        pIsValueText a0.2 ∧
        ((mIsValueText a0.2) = true →
          (Q (decide ((a0.2.size : Int) ≤ 60)))) ∧
        (¬ ((mIsValueText a0.2) = true) →
          (Q false))) ∧
      (¬ ((a0.1.size : Int) ≤ 24) →
        (Q false))) ∧
    (¬ (a0.1 = (mLower a0.1)) →
      (Q false))) ∧
  (¬ ((mIsTokenText a0.1) = true) →
    (Q false))

def s_spec_l4Has (a0 : (List Int)) (a1 : Int) (Q : (Bool → Prop)) : Prop :=
  (∀ L0 : (Int → Prop),
    ((
        (∀ y1 : Int,
          ((
              (y1 < (a0.length : Int) →
                0 ≤ y1 ∧
                y1 < (a0.length : Int) ∧
                ((rx a0 y1) = a1 →
                  (Q true)) ∧
                (¬ ((rx a0 y1) = a1) →
                  (L0 (IntKind.i64.wrap (y1 + 1))))) ∧
              (¬ (y1 < (a0.length : Int)) →
                (Q false))
            ) →
            (L0 y1)))
      ) →
      (L0 0)))

def s_spec_l6Plain (a0 : (List Fld)) (Q : (Bool → Prop)) : Prop :=
  pFieldGet a0 (lit [116, 114, 97, 110, 115, 102, 101, 114, 45, 101, 110, 99, 111, 100, 105, 110, 103]) ∧
  pFieldGet a0 (lit [99, 111, 110, 116, 101, 110, 116, 45, 108, 101, 110, 103, 116, 104]) ∧
  (¬ ((mFieldGet a0 (lit [116, 114, 97, 110, 115, 102, 101, 114, 45, 101, 110, 99, 111, 100, 105, 110, 103])).2 = true) →
    (¬ ((mFieldGet a0 (lit [99, 111, 110, 116, 101, 110, 116, 45, 108, 101, 110, 103, 116, 104])).2 = true) →
      ((a0.length : Int) < 12 →
        pFieldsOk a0 ∧
        (Q (mFieldsOk a0))) ∧
      (¬ ((a0.length : Int) < 12) →
        (Q false))) ∧
    (¬ (¬ ((mFieldGet a0 (lit [99, 111, 110, 116, 101, 110, 116, 45, 108, 101, 110, 103, 116, 104])).2 = true)) →
      (Q false))) ∧
  (¬ (¬ ((mFieldGet a0 (lit [116, 114, 97, 110, 115, 102, 101, 114, 45, 101, 110, 99, 111, 100, 105, 110, 103])).2 = true)) →
    (Q false))

def s_spec_l7Unquote (a0 : S) (Q : (S → Prop)) : Prop :=
  (2 ≤ (a0.size : Int) →
    (0 : Int) ≤ 0 ∧
    0 < (a0.size : Int) ∧
    ((bt a0 0) = 34 →
      0 ≤ (IntKind.i64.wrap ((a0.size : Int) - 1)) ∧
      (IntKind.i64.wrap ((a0.size : Int) - 1)) < (a0.size : Int) ∧
      ((bt a0 (IntKind.i64.wrap ((a0.size : Int) - 1))) = 34 →
        (0 : Int) ≤ 1 ∧
        1 ≤ (IntKind.i64.wrap ((a0.size : Int) - 1)) ∧
        (IntKind.i64.wrap ((a0.size : Int) - 1)) ≤ (a0.size : Int) ∧
        (Q (a0.extract ((1 : Int).toNat) (IntKind.i64.wrap ((a0.size : Int) - 1)).toNat))) ∧
      (¬ ((bt a0 (IntKind.i64.wrap ((a0.size : Int) - 1))) = 34) →
        (Q a0))) ∧
    (¬ ((bt a0 0) = 34) →
      (Q a0))) ∧
  (¬ (2 ≤ (a0.size : Int)) →
    (Q a0))

end Go.Ev
end

section
/- Laws of the plain library: what the functions come to is what they compute. First part: small ones. -/
set_option linter.unusedVariables false
namespace Go.Ev

theorem spec_l1In_ok (a0 a1 a2 : Int) : s_spec_l1In a0 a1 a2 (fun r => r = mIn a0 a1 a2) := by
  unfold s_spec_l1In mIn; grind
theorem impl_in_ok (a0 a1 a2 : Int) : s_impl_in a0 a1 a2 (fun r => r = mIn a0 a1 a2) := by
  unfold s_impl_in mIn; grind
theorem spec_l2Blank_ok (a0 : Int) : s_spec_l2Blank a0 (fun r => r = mBlank a0) := by
  unfold s_spec_l2Blank mBlank; grind
theorem impl_bodiless_ok (a0 : Int) : s_impl_bodiless a0 (fun r => r = mBodiless a0) := by
  unfold s_impl_bodiless mBodiless; grind
theorem impl_isLetterOrDigit_ok (a0 : Int) : s_impl_isLetterOrDigit a0 (fun r => r = mIsLetterOrDigit a0) := by
  unfold s_impl_isLetterOrDigit mIsLetterOrDigit
  (repeat' first | apply And.intro | intro _) <;> grind
theorem spec_l2Token_ok (a0 : Int) : s_spec_l2Token a0 (fun r => r = mToken a0) := by
  unfold s_spec_l2Token mToken mIsLetterOrDigit tokenSigns
  simp only [List.any_cons, List.any_nil]
  (repeat' first | apply And.intro | intro _) <;> simp only [*, decide_true, decide_false, Bool.and_true, Bool.true_or, Bool.or_true, Bool.false_or, Bool.or_false, Bool.and_false, Bool.false_and, Bool.true_and]
theorem impl_Heuristic_ok (a0 : Int) : s_impl_Heuristic a0 (fun r => r = mHeuristic a0) := by
  unfold s_impl_Heuristic mHeuristic mL4Has; simp only [List.any_cons, List.any_nil]
  (repeat' first | apply And.intro | intro _) <;> grind
theorem impl_shardSizes_ok (a0 a1 : Int) : s_impl_shardSizes a0 a1 (fun r => r = mShardSizes a0 a1) := by
  unfold s_impl_shardSizes mShardSizes pIn; grind
theorem impl_fieldOk_ok (a0 : Fld) (h : pFieldOk a0) : s_impl_fieldOk a0 (fun r => r = mFieldOk a0) := by
  unfold s_impl_fieldOk mFieldOk; unfold pFieldOk at h; simp only [pIsTokenText, pLower, pIsValueText]; grind
theorem spec_l3FieldOk_ok (a0 : Fld) (h : pFieldOk a0) : s_spec_l3FieldOk a0 (fun r => r = mFieldOk a0) := by
  unfold s_spec_l3FieldOk mFieldOk; unfold pFieldOk at h; simp only [pIsTokenText, pLower, pIsValueText]; grind
theorem impl_FieldsOk_1_ok (a0 : Fld) (h : pFieldsOk_1 a0) : s_impl_FieldsOk_1 a0 (fun r => r = mFieldsOk_1 a0) := by
  unfold s_impl_FieldsOk_1 mFieldsOk_1; unfold pFieldsOk_1 at h; grind
theorem impl_hasField_ok (a0 : List Fld) (a1 : S) (h : pHasField a0 a1) : s_impl_hasField a0 a1 (fun r => r = mHasField a0 a1) := ⟨h, rfl⟩
theorem impl_bodyFields_ok (a0 : List Fld) (h : pBodyFields a0) : s_impl_bodyFields a0 (fun r => r = mBodyFields a0) := by
  unfold s_impl_bodyFields mBodyFields nameCL nameTE; unfold pBodyFields at h; unfold pHasField; grind
theorem impl_ownFields_ok (a0 : List Fld) (h : pOwnFields a0) : s_impl_ownFields a0 (fun r => r = mOwnFields a0) := by
  unfold s_impl_ownFields mOwnFields; unfold pOwnFields at h; unfold pFieldsOk pBodyFields; grind
theorem spec_l6Plain_ok (a0 : List Fld) (h : pOwnFields a0) : s_spec_l6Plain a0 (fun r => r = mOwnFields a0) := by
  unfold s_spec_l6Plain mOwnFields mBodyFields mHasField nameCL nameTE; unfold pOwnFields at h; unfold pFieldsOk pFieldGet; grind
theorem impl_ResponseOk_ok (a0 : Rsp) (h : pResponseOk a0) : s_impl_ResponseOk a0 (fun r => r = mResponseOk a0) := by
  unfold s_impl_ResponseOk mResponseOk; unfold pResponseOk at h; unfold pIn pOwnFields pBodiless; grind
theorem spec_ResponseOk_ok (a0 : Rsp) (h : pResponseOk a0) : s_spec_ResponseOk a0 (fun r => r = mResponseOk a0) := by
  unfold s_spec_ResponseOk mResponseOk mBodiless; unfold pResponseOk at h; unfold pIn pOwnFields
  (repeat' first | apply And.intro | intro _) <;> grind
theorem spec_Heuristic_ok (a0 : Int) : s_spec_Heuristic a0 (fun r => r = mHeuristic a0) := ⟨by simp [pL4Has, maxLen], rfl⟩
theorem spec_l7Unquote_ok (a0 : S) (h : pL7Unquote a0) : s_spec_l7Unquote a0 (fun r => r = mL7Unquote a0) := by
  unfold pL7Unquote sm at h
  have hw : 2 ≤ (a0.size : Int) → IntKind.i64.wrap ((a0.size : Int) - 1) = (a0.size : Int) - 1 := fun h2 => wrap64 (by omega) (by omega)
  unfold s_spec_l7Unquote mL7Unquote
  refine ⟨fun h2 => ?_, fun h2 => ?_⟩
  · rw [hw h2]
    have ht : ((a0.size : Int) - 1).toNat = a0.size - 1 := by omega
    rw [ht]
    grind
  · grind
theorem impl_Trim_ok (a0 : S) (h : pTrim a0) : s_impl_Trim a0 (fun r => r = mTrim a0) := ⟨⟨h, rfl⟩, rfl⟩
theorem impl_TagOf_ok (a0 : Int) (h : pTagOf a0) : s_impl_TagOf a0 (fun r => r = mTagOf a0) := by
  have hl : pTagOf a0 → (mDec a0).size ≤ 21 := fun h => by
    unfold mDec mItoa; rw [ob_size]; exact Lib.itoa_length_le a0 h.1 h.2
  have h1 : (lit [34, 118]).size = 2 := rfl
  have h2 : (lit [34]).size = 1 := rfl
  unfold s_impl_TagOf mTagOf pIn pDec
  unfold pTagOf at h
  have := hl h
  simp only [size_append, h1, h2]
  grind
theorem spec_TagOf_ok (a0 : Int) (h : pTagOf a0) : s_spec_TagOf a0 (fun r => r = mTagOf a0) := impl_TagOf_ok a0 h
theorem impl_Dec_ok (a0 : Int) (h : pDec a0) : s_impl_Dec a0 (fun r => r = mDec a0) := ⟨h, rfl⟩
theorem spec_OnlyStored_ok (a0 : Req) (h : pOnlyStored a0) : s_spec_OnlyStored a0 (fun r => r = mOnlyStored a0) := by
  refine ⟨?_, rfl⟩
  unfold pOnlyStored md at h; unfold pCcHas md
  simp only [cz_pair] at h; omega
theorem impl_OnlyStored_ok (a0 : Req) (h : pOnlyStored a0) : s_impl_OnlyStored a0 (fun r => r = mOnlyStored a0) := spec_OnlyStored_ok a0 h
end Go.Ev
end

section
/- Laws of the plain library, second part: searches. -/
set_option linter.unusedVariables false
namespace Go.Ev

/-- What a search over a list comes to. -/
def scanS {α : Type} [Dft α] (xs : List α) (P C : α → Prop) (Qh : Int → Prop) (Qe : Prop) : Prop :=
  ∀ L : Int → Prop, (∀ y : Int, ((y < (xs.length : Int) → 0 ≤ y ∧ y < (xs.length : Int) ∧ P (rx xs y) ∧ ((C (rx xs y) → Qh y) ∧ (¬ C (rx xs y) → L (IntKind.i64.wrap (y + 1))))) ∧
    (¬ y < (xs.length : Int) → Qe)) → L y) → L 0
theorem scanS_ok {α : Type} [Dft α] {xs : List α} {P C : α → Prop} {Qh : Int → Prop} {Qe : Prop} (hlen : xs.length ≤ maxLen) (hP : ∀ x ∈ xs, P x)
    (hh : ∀ (i : Nat) (h : i < xs.length), C xs[i] → (∀ (j : Nat) (hj : j < i), ¬ C (xs[j]'(by omega))) → Qh (i : Int)) (he : (∀ x ∈ xs, ¬ C x) → Qe) : scanS xs P C Qh Qe := by
  intro L hL
  simp only [maxLen] at hlen
  refine loopN hL xs.length (by omega) (fun i => ∀ (j : Nat) (hj : j < i) (h : j < xs.length), ¬ C xs[j]) (fun i hi hI hn => ?_) (fun j hj => by omega)
  refine ⟨fun hlt => ?_, fun hge => ?_⟩
  · have hlt : i < xs.length := by omega
    rw [rx_get xs hlt]
    refine ⟨by omega, by omega, hP _ (List.getElem_mem hlt), fun hc => hh i hlt hc fun j hj => hI j hj (by omega), fun hc => hn hlt fun j hj h => ?_⟩
    by_cases e : j = i
    · subst e; exact hc
    · exact hI j (by omega) h
  · refine he fun x hx => ?_
    obtain ⟨j, hj, rfl⟩ := List.mem_iff_getElem.1 hx
    exact hI j (by omega) hj
/-- .. without a look at what it asks. -/
def scanT {α : Type} [Dft α] (xs : List α) (C : α → Prop) (Qh : Int → Prop) (Qe : Prop) : Prop :=
  ∀ L : Int → Prop, (∀ y : Int, ((y < (xs.length : Int) → 0 ≤ y ∧ y < (xs.length : Int) ∧ ((C (rx xs y) → Qh y) ∧ (¬ C (rx xs y) → L (IntKind.i64.wrap (y + 1))))) ∧
    (¬ y < (xs.length : Int) → Qe)) → L y) → L 0
theorem scanT_ok {α : Type} [Dft α] {xs : List α} {C : α → Prop} {Qh : Int → Prop} {Qe : Prop} (hlen : xs.length ≤ maxLen)
    (hh : ∀ (i : Nat) (h : i < xs.length), C xs[i] → (∀ (j : Nat) (hj : j < i), ¬ C (xs[j]'(by omega))) → Qh (i : Int)) (he : (∀ x ∈ xs, ¬ C x) → Qe) : scanT xs C Qh Qe := by
  have h : scanS xs (fun _ => True) C Qh Qe := scanS_ok hlen (fun _ _ => trivial) hh he
  intro L hL
  exact h L fun y hy => hL y ⟨fun h1 => ⟨(hy.1 h1).1, (hy.1 h1).2.1, (hy.1 h1).2.2.2⟩, hy.2⟩
theorem md_len {α : Type} [Cz α] {xs : List α} (h : md xs) : xs.length ≤ maxLen := by
  have := cz_len xs
  unfold md at h
  simp only [maxLen]; omega
theorem md_len' {α : Type} [Cz α] {xs : List α} (h : md xs) : xs.length ≤ 1048576 := by
  have := cz_len xs
  unfold md at h
  omega

/-- A search for a place. -/
theorem idxS_ok {α : Type} [Dft α] {xs : List α} {P : α → Prop} {F : α → Bool} (hlen : xs.length ≤ maxLen) (hP : ∀ x ∈ xs, P x) :
    scanS xs P (fun x => F x = true) (fun i => i = idxI F xs) (-1 = idxI F xs) :=
  scanS_ok hlen hP (fun i h hc hb => (idxI_at h hc fun j hj => by have := hb j hj; simpa using this).symm)
    (fun h => (idxI_none fun j hj => by have := h _ (List.getElem_mem hj); simpa using this).symm)
theorem idxI_nonneg {α : Type} {F : α → Bool} {xs : List α} : decide (0 ≤ idxI F xs) = xs.any F := by
  have h := idxI_neg (p := F) (xs := xs)
  cases hx : xs.any F with
  | true =>
    rw [hx] at h
    have : ¬ idxI F xs < 0 := by rw [h]; simp
    exact decide_eq_true (by omega)
  | false =>
    have := h.2 hx
    exact decide_eq_false (by omega)
theorem sm_of_md {x y : S} (h : cz (x, y) ≤ 1048576) : sm x ∧ sm y := by
  simp only [cz_pair, cz_str] at h
  unfold sm; omega

theorem IndexFunc_FieldsOk_1_ok (a0 : List Fld) (a1 : Unit) (h : pIndexFunc_FieldsOk_1 a0 a1) : s_IndexFunc_FieldsOk_1 a0 a1 (fun r => r = mIndexFunc_FieldsOk_1 a0 a1) :=
  idxS_ok (P := pFieldsOk_1) (md_len h) fun x hx => sm_of_md (md_mem h hx)
theorem ContainsFunc_FieldsOk_1_ok (a0 : List Fld) (a1 : Unit) (h : pContainsFunc_FieldsOk_1 a0 a1) : s_ContainsFunc_FieldsOk_1 a0 a1 (fun r => r = mContainsFunc_FieldsOk_1 a0 a1) :=
  ⟨h, idxI_nonneg⟩
theorem impl_FieldsOk_ok (a0 : List Fld) (h : pFieldsOk a0) : s_impl_FieldsOk a0 (fun r => r = mFieldsOk a0) := by
  have e : (a0.any mFieldsOk_1) = !(a0.all mFieldOk) := by
    unfold mFieldsOk_1
    rw [List.all_eq_not_any_not, Bool.not_not]
  unfold s_impl_FieldsOk mFieldsOk mContainsFunc_FieldsOk_1
  rw [e]
  unfold pContainsFunc_FieldsOk_1
  unfold pFieldsOk at h
  grind
theorem spec_FieldsOk_ok (a0 : List Fld) (h : pFieldsOk a0) : s_spec_FieldsOk a0 (fun r => r = mFieldsOk a0) := by
  refine scanS_ok (P := pFieldOk) (C := fun x => ¬ mFieldOk x = true) (Qh := fun _ => false = mFieldsOk a0) (md_len h) (fun x hx => sm_of_md (md_mem h hx)) (fun i hi hc _ => ?_) (fun hx => ?_)
  · unfold mFieldsOk
    rw [all_false hi (by simpa using hc)]; rfl
  · unfold mFieldsOk
    rw [List.all_eq_true.2 fun x hx' => by have := hx x hx'; simpa using this]; rfl
theorem spec_l4Has_ok (a0 : List Int) (a1 : Int) (h : pL4Has a0 a1) : s_spec_l4Has a0 a1 (fun r => r = mL4Has a0 a1) := by
  refine scanT_ok (C := fun x => x = a1) (Qh := fun _ => true = mL4Has a0 a1) h (fun i hi hc _ => ?_) (fun hx => ?_)
  · unfold mL4Has
    exact (any_true hi (by simpa using hc)).symm
  · unfold mL4Has
    exact (List.any_eq_false.2 fun x hx' => by have := hx x hx'; simpa using this).symm
theorem slices_Index_string_ok (a0 : List S) (a1 : S) (h : pIndex_string a0 a1) : s_slices_Index_string a0 a1 (fun r => r = mIndex_string a0 a1) := by
  refine scanT_ok (C := fun x => a1 = x) (Qh := fun i => i = mIndex_string a0 a1) h (fun i hi hc hb => ?_) (fun hx => ?_)
  · exact (idxI_at hi (by simpa using hc) fun j hj => by have := hb j hj; simpa using this).symm
  · exact (idxI_none fun j hj => by have := hx _ (List.getElem_mem hj); simpa using this).symm
theorem slices_Contains_string_ok (a0 : List S) (a1 : S) (h : pContains_string a0 a1) : s_slices_Contains_string a0 a1 (fun r => r = mContains_string a0 a1) := ⟨h, idxI_nonneg⟩
theorem IndexFunc_CcHas_1_ok (a0 : List Fld) (a1 : S) (h : pIndexFunc_CcHas_1 a0 a1) : s_IndexFunc_CcHas_1 a0 a1 (fun r => r = mIndexFunc_CcHas_1 a0 a1) :=
  idxS_ok (P := fun x => pCcHas_1 x a1) (F := fun d => mCcHas_1 d a1) h fun _ _ => trivial
theorem ContainsFunc_CcHas_1_ok (a0 : List Fld) (a1 : S) (h : pContainsFunc_CcHas_1 a0 a1) : s_ContainsFunc_CcHas_1 a0 a1 (fun r => r = mContainsFunc_CcHas_1 a0 a1) := ⟨h, idxI_nonneg⟩
theorem IndexFunc_ShardOk_1_ok (a0 : List Slt) (a1 : Slt) (h : pIndexFunc_ShardOk_1 a0 a1) : s_IndexFunc_ShardOk_1 a0 a1 (fun r => r = mIndexFunc_ShardOk_1 a0 a1) :=
  idxS_ok (P := fun y => pShardOk_1 y a1) (F := fun y => mShardOk_1 y a1) h.1 fun _ _ => h.2
theorem ContainsFunc_ShardOk_1_ok (a0 : List Slt) (a1 : Slt) (h : pContainsFunc_ShardOk_1 a0 a1) : s_ContainsFunc_ShardOk_1 a0 a1 (fun r => r = mContainsFunc_ShardOk_1 a0 a1) := ⟨h, idxI_nonneg⟩

/-! ### Comparing rows of fields -/
theorem spec_SameFields_ok (a0 a1 : List Fld) (h : pSameFields a0 a1) : s_spec_SameFields a0 a1 (fun r => r = mSameFields a0 a1) := by
  unfold pSameFields at h
  simp only [maxLen] at h
  unfold s_spec_SameFields mSameFields
  refine ⟨fun hne => (decide_eq_false fun e => hne (by rw [e])).symm, fun heq => ?_⟩
  have hl : a0.length = a1.length := by omega
  intro L hL
  refine loopN hL a0.length (by omega) (fun i => a0.take i = a1.take i) (fun i hi hI hn => ?_) rfl
  refine ⟨fun hlt => ?_, fun hge => ?_⟩
  · have h0 : i < a0.length := by omega
    have h1 : i < a1.length := by omega
    rw [rx_get a0 h0, rx_get a1 h1]
    refine ⟨by omega, by omega, by omega, by omega, fun hc => (decide_eq_false fun e => hc (by subst e; rfl)).symm, fun hc => hn h0 ?_⟩
    rw [take_succ_app h0, take_succ_app h1, hI, Classical.not_not.1 hc]
  · refine (decide_eq_true ?_).symm
    have e0 : a0.take i = a0 := List.take_of_length_le (by omega)
    have e1 : a1.take i = a1 := List.take_of_length_le (by omega)
    rw [← e0, hI, e1]
theorem slices_Equal_Field_ok (a0 a1 : List Fld) (h : pEqual_Field a0 a1) : s_slices_Equal_Field a0 a1 (fun r => r = mEqual_Field a0 a1) := spec_SameFields_ok a0 a1 h
theorem impl_SameFields_ok (a0 a1 : List Fld) (h : pSameFields a0 a1) : s_impl_SameFields a0 a1 (fun r => r = mSameFields a0 a1) := ⟨h, rfl⟩
theorem spec_l12Same_ok (a0 a1 : Sto) (h : pStandAlike a0 a1) : s_spec_l12Same a0 a1 (fun r => r = mStandAlike a0 a1) := by
  unfold s_spec_l12Same mStandAlike
  unfold pStandAlike at h
  unfold pSameFields mSameFields
  grind
theorem impl_standAlike_ok (a0 a1 : Sto) (h : pStandAlike a0 a1) : s_impl_standAlike a0 a1 (fun r => r = mStandAlike a0 a1) := spec_l12Same_ok a0 a1 h
theorem impl_ShardOk_1_ok (a0 a1 : Slt) (h : pShardOk_1 a0 a1) : s_impl_ShardOk_1 a0 a1 (fun r => r = mShardOk_1 a0 a1) := ⟨h, rfl⟩

/-! ### Texts, byte by byte -/
theorem ints_get (s : S) {i : Nat} (h : i < s.size) : (ints s)[i]'(by unfold ints; rw [List.length_map, bs_len]; exact h) = bt s (i : Int) := by
  rw [bt_nat s i h]
  unfold ints
  rw [List.getElem_map]
theorem ints_len (s : S) : (ints s).length = s.size := by unfold ints; rw [List.length_map, bs_len]
theorem ints_all {s : S} {p : Int → Bool} : (ints s).all p = true ↔ ∀ i : Nat, i < s.size → p (bt s (i : Int)) = true := by
  rw [List.all_eq_true]
  constructor
  · intro h i hi
    rw [← ints_get s hi]
    exact h _ (List.getElem_mem _)
  · intro h x hx
    obtain ⟨j, hj, rfl⟩ := List.mem_iff_getElem.1 hx
    have hj' : j < s.size := by rw [ints_len] at hj; exact hj
    rw [ints_get s hj']
    exact h j hj'
theorem ints_all_false {s : S} {p : Int → Bool} {i : Nat} (h : i < s.size) (hp : ¬ p (bt s (i : Int)) = true) : (ints s).all p = false := by
  cases hx : (ints s).all p with
  | false => rfl
  | true => exact absurd (ints_all.1 hx i h) hp
/-- What a search over a text's bytes comes to, at each byte. -/
theorem scanB {s : S} {p : Int → Bool} {B : Int → (Int → Prop) → Prop} (hlen : sm s)
    (hit : ∀ i : Nat, i < s.size → ∀ L : Int → Prop, (p (bt s (i : Int)) = true → L (IntKind.i64.wrap ((i : Int) + 1))) → (¬ p (bt s (i : Int)) = true → (ints s).all p = false) → B (i : Int) L)
    (he : (ints s).all p = true → ∀ L, B (s.size : Int) L) : ∀ L : Int → Prop, (∀ y, B y L → L y) → L 0 := by
  intro L hL
  unfold sm at hlen
  refine loopN hL s.size (by omega) (fun i => ∀ j : Nat, j < i → j < s.size → p (bt s (j : Int)) = true) (fun i hi hI hn => ?_) (fun j hj => by omega)
  by_cases hlt : i < s.size
  · refine hit i hlt L (fun hp => hn hlt fun j hj hj2 => ?_) fun hp => ints_all_false hlt hp
    by_cases e : j = i
    · subst e; exact hp
    · exact hI j (by omega) hj2
  · have : i = s.size := by omega
    subst this
    exact he (ints_all.2 fun j hj => hI j hj hj) L
theorem spec_UriOk_ok (a0 : S) (h : pUriOk a0) : s_spec_UriOk a0 (fun r => r = mUriOk a0) := by
  refine scanB (p := fun b => decide (33 ≤ b) && decide (b ≤ 126)) h (fun i hi L hL hf => ?_) fun ha L => ?_
  · unfold mUriOk
    grind
  · unfold mUriOk pIn
    simp only [ha]
    refine ⟨fun h => by omega, fun _ => ⟨trivial, fun h1 => ⟨by omega, ?_, ?_⟩, fun h1 => ?_⟩⟩
    · unfold mIn at h1; grind
    · rw [h1]; rfl
    · rw [Bool.not_eq_true] at h1; rw [h1]; rfl
theorem impl_UriOk_ok (a0 : S) (h : pUriOk a0) : s_impl_UriOk a0 (fun r => r = mUriOk a0) := by
  refine scanB (p := fun b => decide (33 ≤ b) && decide (b ≤ 126)) h (fun i hi L hL hf => ?_) fun ha L => ?_
  · unfold mUriOk
    grind
  · unfold mUriOk pIn
    simp only [ha]
    refine ⟨fun h => by omega, fun _ => ⟨trivial, fun h1 => ⟨by omega, ?_, ?_⟩, fun h1 => ?_⟩⟩
    · unfold mIn at h1; grind
    · rw [h1]; rfl
    · rw [Bool.not_eq_true] at h1; rw [h1]; rfl
theorem spec_IsTokenText_ok (a0 : S) (h : pIsTokenText a0) : s_spec_IsTokenText a0 (fun r => r = mIsTokenText a0) := by
  refine scanB (p := mToken) h (fun i hi L hL hf => ?_) fun ha L => ?_
  · unfold mIsTokenText pToken
    grind
  · unfold mIsTokenText
    simp only [ha]
    grind
theorem sign_iff : ∀ n : Fin 256, (mToken (n.val : Int) = true) ↔ (mIsLetterOrDigit (n.val : Int) = true ∨ ¬ mIndexByte (lit [33, 35, 36, 37, 38, 39, 42, 43, 45, 46, 94, 95, 124, 126, 96]) (n.val : Int) < 0) := by decide +kernel
theorem impl_IsTokenText_ok (a0 : S) (h : pIsTokenText a0) : s_impl_IsTokenText a0 (fun r => r = mIsTokenText a0) := by
  refine scanB (p := mToken) h (fun i hi L hL hf => ?_) fun ha L => ?_
  · have hb := bt_range a0 (i : Int)
    have hs := sign_iff ⟨(bt a0 (i : Int)).toNat, by omega⟩
    simp only [Int.toNat_of_nonneg hb.1] at hs
    unfold mIsTokenText pIsLetterOrDigit pIndexByte
    generalize mIndexByte _ (bt a0 (i : Int)) = k at hs ⊢
    grind
  · unfold mIsTokenText
    simp only [ha]
    refine ⟨fun h => by omega, fun _ => ?_⟩
    rw [Bool.true_and]
    exact decide_eq_decide.2 lit_ne
theorem spec_IsValueText_ok (a0 : S) (h : pIsValueText a0) : s_spec_IsValueText a0 (fun r => r = mIsValueText a0) := by
  refine scanB (p := fun b => decide (b = 9) || (decide (32 ≤ b) && decide (b ≠ 127))) h (fun i hi L hL hf => ?_) fun ha L => ?_
  · unfold mIsValueText
    grind
  · unfold mIsValueText
    simp only [ha]
    exact ⟨fun h => by omega, fun _ => ⟨h, rfl⟩⟩
theorem impl_IsValueText_ok (a0 : S) (h : pIsValueText a0) : s_impl_IsValueText a0 (fun r => r = mIsValueText a0) := by
  refine scanB (p := fun b => decide (b = 9) || (decide (32 ≤ b) && decide (b ≠ 127))) h (fun i hi L hL hf => ?_) fun ha L => ?_
  · unfold mIsValueText
    grind
  · unfold mIsValueText
    simp only [ha]
    exact ⟨fun h => by omega, fun _ => ⟨h, rfl⟩⟩
end Go.Ev
end

section
/- A law's end: from the contract of the law's function to its calls. -/
set_option linter.unusedVariables false
namespace Go.Ev
open Go.RowKit Go.WideShapes
/-- The contract of a law's function: it returns true. -/
def boolCt (f : FuncId) (ps : List PT) (pre : pts ps → Prop) : Ct := { f, ps, rs := [(false, [.bool])], shared := false, pre, F := fun _ => (true : Bool) }
theorem bool_end {P : Program} {f : FuncId} {ps : List PT} {pre : pts ps → Prop} {W : World} {vals : Array Value} {x : pts ps} (h : CtAt P (boolCt f ps pre) W) (hargs : argsR (now W) W ps x vals.toList) (hpre : pre x) :
    Calls P f vals W fun e w' => e = .returned (.bool true) ∧ Below W.heap.size W w' := by
  obtain ⟨_, hc⟩ := h vals x (now W) (fun b hb => hb) hargs hpre
  refine hc.mono fun e w' ⟨vs, v, col, he, hb, hv, _, hr⟩ => ?_
  simp only [boolCt, resR] at hr
  obtain ⟨u, vs', cs, rfl, ho, hs, rfl⟩ := hr
  simp only [outR, repL] at ho
  obtain ⟨u2, cs', rfl, hb2, rfl⟩ := ho
  have hs := hs.resolve_left fun h => by simp [anyRes] at h
  simp only [slotV, Bool.false_eq_true, if_false] at hs
  have e1 : u2 = u := by simpa using hs
  subst e1
  have hu : u2 = .bool true := hb2
  subst hu
  refine ⟨?_, hb⟩
  rw [he]
  rcases hv with hv | ⟨hv, _⟩
  · have : v = .bool true := by simpa using hv.symm
    rw [this]
  · simp at hv
theorem args_nil {S : Nat → Prop} {W : World} : argsR S W [] () [] := rfl
theorem args_cons {S : Nat → Prop} {W : World} {p : PT} {ps : List PT} {x : p.den} {xs : pts ps} {v : Value} {vs : List Value} (h1 : argR S W p x v) (h2 : argsR S W ps xs vs) : argsR S W (p :: ps) (pmk x xs) (v :: vs) := by
  simp only [argsR]
  exact ⟨v, vs, rfl, by rw [phd_pmk]; exact h1, by rw [ptl_pmk]; exact h2⟩
theorem arg_agg {S : Nat → Prop} {W : World} {ts : List L} {x : dens ts} {cs : Array Value} (h : repLs (roRow W S) ts [] 0 0 x cs.toList) : argR S W (.v true .ro ts) x (.agg cs) := ⟨cs.toList, h, by simp [slotV]⟩
theorem arg_one {S : Nat → Prop} {W : World} {ts : List L} {x : dens ts} {v : Value} (h : repLs (roRow W S) ts [] 0 0 x [v]) : argR S W (.v false .ro ts) x v := ⟨[v], h, by simp [slotV]⟩
theorem by_like {A B : Prop} (hA : A) (h : A = B) : B := h ▸ hA
end Go.Ev
end

section
/- Laws of the plain library: worlds. -/
set_option linter.unusedVariables false
namespace Go.Ev
theorem wld_conns (w : Wld) (h : md w) : w.2.2.1.length ≤ 1048576 := by
  unfold md at h
  have := cz_len w.2.2.1
  simp only [cz_pair] at h
  omega
theorem wld_flights (w : Wld) (h : md w) : w.2.2.2.2.2.1.length ≤ 1048576 := by
  unfold md at h
  have := cz_len w.2.2.2.2.2.1
  simp only [cz_pair] at h
  omega
theorem spec_Blocked_ok (a0 : Wld) (a1 : Int) (h : pBlocked a0 a1) : s_spec_Blocked a0 a1 (fun r => r = mBlocked a0 a1) := by
  have h1 := wld_conns a0 h
  have h2 := wld_flights a0 h
  unfold s_spec_Blocked mBlocked
  rw [wrap64 (by omega) (by omega), wrap64 (by omega) (by omega)]
  refine ⟨trivial, fun hc => ?_, fun hc => ?_⟩
  · rw [Bool.not_eq_true] at hc; rw [hc]; rfl
  · have hc := Classical.not_not.1 hc
    have hr : 0 ≤ a1 ∧ a1 ≤ (a0.2.2.1.length : Int) - 1 := by unfold mIn at hc; simpa using hc
    rw [hc]
    refine ⟨by omega, by omega, fun h7 => by simp [h7], fun h7 => ⟨fun h5 => ⟨trivial, fun hf => ?_, fun hf => ?_⟩, fun h5 => by simp [h7, h5]⟩⟩
    · have hr2 : 0 ≤ (rx a0.2.2.1 a1).2.2.2.2.2.2.2.2.2.2.2.2.2.2.2.2.2.2.2.1 ∧ (rx a0.2.2.1 a1).2.2.2.2.2.2.2.2.2.2.2.2.2.2.2.2.2.2.2.1 ≤ (a0.2.2.2.2.2.1.length : Int) - 1 := by unfold mIn at hf; simpa using hf
      refine ⟨by omega, by omega, ?_⟩
      rw [hf]
      simp [h7, h5]
    · rw [Bool.not_eq_true] at hf
      rw [hf]
      simp [h7, h5]
theorem impl_Blocked_ok (a0 : Wld) (a1 : Int) (h : pBlocked a0 a1) : s_impl_Blocked a0 a1 (fun r => r = mBlocked a0 a1) := spec_Blocked_ok a0 a1 h
theorem spec_AllDone_ok (a0 : Wld) (h : pAllDone a0) : s_spec_AllDone a0 (fun r => r = mAllDone a0) := by
  have h1 := wld_conns a0 h
  refine scanT_ok (xs := a0.2.2.1) (C := fun c : Cnn => c.1 ≠ 7) (Qh := fun _ => false = mAllDone a0) (by simp only [maxLen]; omega) (fun i hi hc _ => ?_) (fun hx => ?_)
  · unfold mAllDone mAllDone_1
    rw [any_true hi (by simpa using hc)]; rfl
  · unfold mAllDone mAllDone_1
    rw [List.any_eq_false.2 fun x hx' => by have := hx x hx'; simpa using this]; rfl
theorem impl_AllDone_1_ok (a0 : Cnn) : s_impl_AllDone_1 a0 (fun r => r = mAllDone_1 a0) := rfl
theorem IndexFunc_AllDone_1_ok (a0 : List Cnn) (a1 : Unit) (h : pIndexFunc_AllDone_1 a0 a1) : s_IndexFunc_AllDone_1 a0 a1 (fun r => r = mIndexFunc_AllDone_1 a0 a1) :=
  idxS_ok (P := pAllDone_1) h fun _ _ => trivial
theorem ContainsFunc_AllDone_1_ok (a0 : List Cnn) (a1 : Unit) (h : pContainsFunc_AllDone_1 a0 a1) : s_ContainsFunc_AllDone_1 a0 a1 (fun r => r = mContainsFunc_AllDone_1 a0 a1) := ⟨h, idxI_nonneg⟩
theorem impl_AllDone_ok (a0 : Wld) (h : pAllDone a0) : s_impl_AllDone a0 (fun r => r = mAllDone a0) := by
  have h1 := wld_conns a0 h
  refine ⟨by unfold pContainsFunc_AllDone_1; simp only [maxLen]; omega, ?_⟩
  unfold mAllDone mContainsFunc_AllDone_1
  cases a0.2.2.1.any mAllDone_1 <;> rfl

/-! ### Laws -/
/-- The budget holds: the data are of moderate size. -/
theorem szF_md {α : Type} [Cz α] {x : α} {k : Int} (h : ¬ szF x k < 0) (h0 : 0 ≤ k) (h1 : k ≤ 1048576) : md x := by
  unfold szF leftI at h
  unfold md
  split at h
  · omega
  · omega
def p_FnExactBlocked (w : Wld) (i : Int) : Prop := wd w ∧ wd i
def p_FnExactAllDone (w : Wld) : Prop := wd w
theorem laws_FnExactBlocked_ok (a0 : Wld) (a1 : Int) (h : p_FnExactBlocked a0 a1) : s_laws_FnExactBlocked a0 a1 (fun r => r = true) := by
  replace h := h.1
  refine ⟨⟨h, by omega, by simp [capI]⟩, fun _ => rfl, fun hs => ?_⟩
  have hm : md a0 := szF_md hs (by omega) (by omega)
  exact ⟨hm, hm, hm, hm, fun hne => absurd rfl hne, fun _ => ⟨hm, h, fun hne => absurd (eqF_iff.2 rfl) hne, fun _ => rfl⟩⟩
theorem laws_FnExactAllDone_ok (a0 : Wld) (h : p_FnExactAllDone a0) : s_laws_FnExactAllDone a0 (fun r => r = true) := by
  refine ⟨⟨h, by omega, by simp [capI]⟩, fun _ => rfl, fun hs => ?_⟩
  have hm : md a0 := szF_md hs (by omega) (by omega)
  exact ⟨hm, hm, hm, hm, fun hne => absurd rfl hne, fun _ => ⟨hm, h, fun hne => absurd (eqF_iff.2 rfl) hne, fun _ => rfl⟩⟩
end Go.Ev
end

section
/- Laws of the plain library: numerals. -/
set_option linter.unusedVariables false
namespace Go.Ev
/-- What of the numeral is still to be written. -/
def decLeft (n : Int) : List UInt8 := if n = 0 then [] else Lib.decDigits n.natAbs
theorem td10 (n : Int) : (0 ≤ n ∧ n.tdiv 10 = n / 10 ∧ n.tmod 10 = n % 10) ∨ (n < 0 ∧ n.tdiv 10 = -((-n) / 10) ∧ n.tmod 10 = -((-n) % 10)) := by
  rcases Int.le_total 0 n with h | h
  · exact Or.inl ⟨h, Int.tdiv_eq_ediv_of_nonneg h, Int.tmod_eq_emod_of_nonneg h⟩
  · by_cases h0 : n = 0
    · subst h0; exact Or.inl ⟨by omega, rfl, rfl⟩
    · refine Or.inr ⟨by omega, ?_, ?_⟩
      · rw [← Int.tdiv_eq_ediv_of_nonneg (by omega), Int.neg_tdiv, Int.neg_neg]
      · rw [← Int.tmod_eq_emod_of_nonneg (by omega), Int.neg_tmod, Int.neg_neg]
theorem decLeft_step {n : Int} (h : n ≠ 0) : decLeft n = decLeft (n.tdiv 10) ++ [UInt8.ofNat (48 + n.natAbs % 10)] := by
  have e : (n.tdiv 10).natAbs = n.natAbs / 10 := by rw [Int.natAbs_tdiv]; rfl
  have ht := td10 n
  unfold decLeft
  rw [if_neg h]
  by_cases h1 : n.natAbs < 10
  · have : n.tdiv 10 = 0 := by omega
    rw [if_pos this, Lib.decDigits_one h1, Nat.mod_eq_of_lt h1]; rfl
  · have : n.tdiv 10 ≠ 0 := by omega
    rw [if_neg this, e, Lib.decDigits, dif_neg h1]
theorem digit_neg {n : Int} (h0 : in64 n) (h : n.tmod 10 < 0) : strOf [IntKind.u8.wrap (IntKind.i64.wrap (48 + IntKind.i64.wrap (0 - n.tmod 10)))] = ob [UInt8.ofNat (48 + n.natAbs % 10)] := by
  obtain ⟨ha, hb⟩ := h0
  have ht := td10 n
  have e1 : IntKind.i64.wrap (0 - n.tmod 10) = ((n.natAbs % 10 : Nat) : Int) := by rw [wrap64 (by omega) (by omega)]; omega
  have e2 : IntKind.i64.wrap (48 + ((n.natAbs % 10 : Nat) : Int)) = ((48 + n.natAbs % 10 : Nat) : Int) := by rw [wrap64 (by omega) (by omega)]; omega
  have hlt : n.natAbs % 10 < 10 := Nat.mod_lt _ (by decide)
  rw [e1, e2]
  generalize n.natAbs % 10 = k at hlt
  have : ∀ k : Fin 10, strOf [IntKind.u8.wrap ((48 + k.val : Nat) : Int)] = ob [UInt8.ofNat (48 + k.val)] := by decide +kernel
  exact this ⟨k, hlt⟩
theorem digit_pos {n : Int} (h0 : in64 n) (h : ¬ n.tmod 10 < 0) : strOf [IntKind.u8.wrap (IntKind.i64.wrap (48 + n.tmod 10))] = ob [UInt8.ofNat (48 + n.natAbs % 10)] := by
  obtain ⟨ha, hb⟩ := h0
  have ht := td10 n
  have e2 : IntKind.i64.wrap (48 + n.tmod 10) = ((48 + n.natAbs % 10 : Nat) : Int) := by rw [wrap64 (by omega) (by omega)]; omega
  have hlt : n.natAbs % 10 < 10 := Nat.mod_lt _ (by decide)
  rw [e2]
  generalize n.natAbs % 10 = k at hlt
  have : ∀ k : Fin 10, strOf [IntKind.u8.wrap ((48 + k.val : Nat) : Int)] = ob [UInt8.ofNat (48 + k.val)] := by decide +kernel
  exact this ⟨k, hlt⟩
theorem spec_Dec_ok (a0 : Int) (h : pDec a0) : s_spec_Dec a0 (fun r => r = mDec a0) := by
  obtain ⟨ha, hb⟩ := h
  have hlen := Lib.itoa_length_le a0 ha hb
  refine ⟨fun h0 => by subst h0; exact bs_inj (by decide +kernel), fun h0 => fun L hL => ?_⟩
  refine loopI hL (fun y => in64 y.1 ∧ (0 ≤ a0 → 0 ≤ y.1) ∧ (a0 < 0 → y.1 ≤ 0) ∧ decLeft y.1 ++ bs y.2 = Lib.decDigits a0.natAbs) (fun y => y.1.natAbs) (fun y hI ih => ?_) (a0, lit []) ⟨⟨ha, hb⟩, fun h => h, fun h => by omega, by unfold decLeft; rw [if_neg h0, bs_lit]; simp⟩
  obtain ⟨n, s⟩ := y
  obtain ⟨h64, hp, hn, he⟩ := hI
  simp only at h64 hp hn he ⊢
  have hl : (Lib.decDigits a0.natAbs).length ≤ 21 := by
    unfold Lib.itoa at hlen
    split at hlen
    · simp only [List.length_cons] at hlen; omega
    · rw [show a0.toNat = a0.natAbs by omega] at hlen; exact hlen
  have hs : s.size ≤ 21 := by rw [← bs_len]; rw [← he, List.length_append] at hl; omega
  have ht := td10 n
  have d64 : in64 (n.tdiv 10) := by obtain ⟨a, b⟩ := h64; constructor <;> omega
  have wd : IntKind.i64.wrap (n.tdiv 10) = n.tdiv 10 := wrap64 (by have := d64.1; omega) (by have := d64.2; omega)
  have next : n ≠ 0 → L (n.tdiv 10, ob [UInt8.ofNat (48 + n.natAbs % 10)] ++ s) := fun hne => by
    refine ih _ ⟨d64, fun h => ?_, fun h => ?_, ?_⟩ ?_
    · have := hp h; simp only; omega
    · have := hn h; simp only; omega
    · simp only
      rw [bs_append, bs_ob, ← List.append_assoc, ← decLeft_step hne, he]
    · simp only; omega
  have h1 : (ob [UInt8.ofNat (48 + n.natAbs % 10)]).size = 1 := ob_size _
  have h2 : (lit [45]).size = 1 := rfl
  rw [wd]
  refine ⟨fun hne => ⟨by decide, fun hneg => ?_, fun hneg => ?_⟩, fun heq => ?_⟩
  · rw [digit_neg h64 hneg, h1]; exact ⟨by omega, by decide, next hne⟩
  · rw [digit_pos h64 hneg, h1]; exact ⟨by omega, by decide, next hne⟩
  · have h00 : n = 0 := Classical.byContradiction heq
    subst h00
    have he : bs s = Lib.decDigits a0.natAbs := by simpa [decLeft] using he
    refine ⟨fun hneg => ⟨by rw [h2]; omega, bs_inj ?_⟩, fun hneg => bs_inj ?_⟩
    · rw [bs_append, he, mDec, mItoa, bs_ob, Lib.itoa, if_pos hneg]; rfl
    · rw [he, mDec, mItoa, bs_ob, Lib.itoa, if_neg hneg, show a0.toNat = a0.natAbs by omega]
end Go.Ev
end

section
/- Library functions: from a call's law to a contract of the small machine. -/
set_option linter.unusedVariables false
namespace Go.Ev
open Go.RowKit
theorem tab_below {P : Program} {w W : World} {name : String} {k : IntKind} {zs : List Int} (h : Lib.TabIs P w name k zs) (hb : Below w.heap.size w W) : Lib.TabIs P W name k zs := by
  unfold Lib.TabIs World.var? at *
  cases hg : P.globalNamed name with
  | none => simp [hg] at h
  | some g =>
    simp only [hg, Option.bind_some] at h ⊢
    have hlt : g < w.heap.size := by
      rcases Nat.lt_or_ge g w.heap.size with h' | h'
      · exact h'
      · rw [Array.getElem?_eq_none h'] at h; simp at h
    rw [hb.block g hlt]
    exact h
/-- The function is there, and has a body. -/
def FnIs (P : Program) (f : FuncId) : Prop := ∃ fn, P.funcs[f]? = some fn ∧ (fn.name == "runtime.NumGoroutine") = false ∧ fn.body.isNone = false
theorem args_v {S : Nat → Prop} {W : World} {t : L} {ps : List PT} {x : pts (.v false .ro [t] :: ps)} {vs : List Value} (h : argsR S W (.v false .ro [t] :: ps) x vs) :
    ∃ v vs', vs = v :: vs' ∧ repL (roRow W S) t [(0, 0)] (hd (phd x)) v ∧ argsR S W ps (ptl x) vs' := by
  simp only [argsR, argR] at h
  obtain ⟨v, vs', rfl, ⟨cs, hc, hs⟩, h2⟩ := h
  obtain ⟨u, cs', rfl, hu, hn⟩ := repLs_cons.1 hc
  simp only [repLs] at hn
  subst hn
  simp only [slotV, Bool.false_eq_true, if_false] at hs
  obtain rfl : u = v := by simpa using hs
  exact ⟨u, vs', rfl, hu, h2⟩
theorem args_e {S : Nat → Prop} {W : World} {x : pts []} {vs : List Value} (h : argsR S W [] x vs) : vs = [] := h
theorem arr_of {vals : Array Value} {l : List Value} (h : vals.toList = l) : vals = l.toArray := by rw [← h]
/-- A contract, from a call's law. -/
theorem ct_lib {P : Program} {c : Ct} {w : World} (hf : FnIs P c.f)
    (h : ∀ (vals : Array Value) (x : pts c.ps) (S : Nat → Prop), (∀ b, S b → b < w.heap.size) → argsR S w c.ps x vals.toList → c.pre x →
      Calls P c.f vals w fun e w' => ∃ vs v, e = .returned v ∧ Below w.heap.size w w' ∧ retV vs v ∧ ∀ S', resR S' (fun _ => none) w' c.shared c.rs (c.F x) 0 vs) : CtAt P c w :=
  fun vals x S hS ha hp => ⟨hf, (h vals x S hS ha hp).mono fun e w' ⟨vs, v, he, hb, hv, hr⟩ => ⟨vs, v, fun _ => none, he, hb, hv, fun b hb => absurd rfl hb, hr _⟩⟩
theorem res_str {S : Nat → Prop} {col : Nat → Option Nat} {W : World} (x : ByteArray) : resR S col W false [(false, [.str])] (x : caps [[L.str]]) 0 [.string x] := by
  simp only [resR]
  exact ⟨_, _, [.string x], rfl, by simp only [outR]; exact ⟨_, _, rfl, rfl, rfl⟩, .inr rfl, rfl⟩
theorem res_int {S : Nat → Prop} {col : Nat → Option Nat} {W : World} {k : IntKind} (x : Int) : resR S col W false [(false, [.int k])] (x : caps [[L.int k]]) 0 [.int k x] := by
  simp only [resR]
  exact ⟨_, _, [.int k x], rfl, by simp only [outR]; exact ⟨_, _, rfl, rfl, rfl⟩, .inr rfl, rfl⟩
/-! ### strconv.Itoa -/
def itoaCt (f : FuncId) : Ct := { f, ps := [.v false .ro [.int .i64]], rs := [(false, [.str])], shared := false, pre := fun (x : Int) => pItoa x, F := fun (x : Int) => mItoa x }
theorem itoa_ct {P : Program} {f : FuncId} {w : World} (hf : FnIs P f)
    (hI : ∀ n : Int, -9223372036854775808 ≤ n → n ≤ 9223372036854775807 → Calls P f #[.int .i64 n] w fun e w' => e = .returned (.string ⟨(Lib.itoa n).toArray⟩) ∧ ∃ k os, w' = Sort.grow (w.drewN k) os) : CtAt P (itoaCt f) w := by
  refine ct_lib hf fun vals x S hS ha hp => ?_
  obtain ⟨v, vs', hv, h1, h2⟩ := args_v ha
  have h2 := args_e h2
  subst h2
  have h1 : v = .int .i64 x := h1
  subst h1
  rw [arr_of hv]
  refine (hI x hp.1 hp.2).mono fun e w' ⟨he, k, os, hw⟩ => ?_
  refine ⟨[.string (mItoa x)], _, he, ?_, Or.inl rfl, fun S' => res_str _⟩
  rw [hw]
  exact Lib.below_grow _ w (Nat.le_refl _) k os
end Go.Ev
end

section
/- Laws of the plain library: the law of TagOf. -/
set_option linter.unusedVariables false
namespace Go.Ev
def s_laws_FnExactTagOf (a0 : Int) (Q : (Bool → Prop)) : Prop :=
  pTagOf a0 ∧
  pTagOf a0 ∧
  ((mTagOf a0) ≠ (mTagOf a0) →
    (Q false)) ∧
  (¬ ((mTagOf a0) ≠ (mTagOf a0)) →
    (Q true))
def p_FnExactTagOf (a0 : Int) : Prop := wd a0
theorem in64_wd {n : Int} (h : wd n) : in64 n := by
  have h : (Lit.int .i64 n).wf = true := h
  simp [Lit.wf, IntKind.min, IntKind.max, IntKind.bits, IntKind.signed] at h
  constructor <;> omega
theorem laws_FnExactTagOf_ok (a0 : Int) (h : p_FnExactTagOf a0) : s_laws_FnExactTagOf a0 (fun r => r = true) :=
  ⟨in64_wd h, in64_wd h, fun hne => absurd rfl hne, fun _ => rfl⟩
end Go.Ev
end

section
/- Laws of the plain library: the laws' functions of the doors. -/
set_option linter.unusedVariables false
namespace Go.Ev
def p_FnExactOriginOk (a0 : List Rsc) : Prop := wd a0
theorem laws_FnExactOriginOk_ok (a0 : List Rsc) (h : p_FnExactOriginOk a0) : s_laws_FnExactOriginOk a0 (fun r => r = true) := by
  refine ⟨⟨h, by omega, by simp [capI]⟩, fun _ => rfl, fun hs => ?_⟩
  have hm : md a0 := szF_md hs (by omega) (by omega)
  exact ⟨hm, hm, hm, hm, fun hne => absurd rfl hne, fun _ => ⟨hm, h, fun hne => absurd (eqF_iff.2 rfl) hne, fun _ => rfl⟩⟩
def p_FnExactShardOk (a0 : Shd) : Prop := wd a0
theorem laws_FnExactShardOk_ok (a0 : Shd) (h : p_FnExactShardOk a0) : s_laws_FnExactShardOk a0 (fun r => r = true) := by
  refine ⟨⟨h, by omega, by simp [capI]⟩, fun _ => rfl, fun hs => ?_⟩
  have hm : md a0 := szF_md hs (by omega) (by omega)
  exact ⟨hm, hm, hm, hm, fun hne => absurd rfl hne, fun _ => ⟨hm, h, fun hne => absurd (eqF_iff.2 rfl) hne, fun _ => rfl⟩⟩
def p_FnExactFilled (a0 : Shd) : Prop := wd a0
theorem laws_FnExactFilled_ok (a0 : Shd) (h : p_FnExactFilled a0) : s_laws_FnExactFilled a0 (fun r => r = true) := by
  refine ⟨⟨h, by omega, by simp [capI]⟩, fun _ => rfl, fun hs => ?_⟩
  have hm : md a0 := szF_md hs (by omega) (by omega)
  exact ⟨hm, hm, hm, hm, fun hne => absurd rfl hne, fun _ => ⟨hm, h, fun hne => absurd (eqF_iff.2 rfl) hne, fun _ => rfl⟩⟩
def p_FnExactOnlyStored (a0 : Req) : Prop := wd a0
theorem laws_FnExactOnlyStored_ok (a0 : Req) (h : p_FnExactOnlyStored a0) : s_laws_FnExactOnlyStored a0 (fun r => r = true) := by
  refine ⟨⟨h, by omega, by simp [capI]⟩, fun _ => rfl, fun hs => ?_⟩
  have hm : md a0 := szF_md hs (by omega) (by omega)
  exact ⟨hm, hm, hm, hm, fun hne => absurd rfl hne, fun _ => ⟨hm, h, fun hne => absurd (eqF_iff.2 rfl) hne, fun _ => rfl⟩⟩
theorem szF_le {α : Type} [Cz α] (x : α) {k : Int} (h0 : 0 ≤ k) : szF x k ≤ k := by
  unfold szF leftI
  split <;> omega
theorem pSz_next {α β : Type} [Cz α] [Cz β] [Wd β] {x : α} {y : β} {k : Int} (h : ¬ szF x k < 0) (h0 : 0 ≤ k) (h1 : k ≤ 1048576) (hy : wd y) : pSz y (szF x k) :=
  ⟨hy, by omega, by have := szF_le x h0; simp only [capI]; omega⟩
theorem md_req {q : Req} (h : md q) : md q.2.2.1 := by
  unfold md at h ⊢; simp only [cz_pair] at h; omega
theorem md_rsp {r : Rsp} (h : md r) : md r.2.1 := by
  unfold md at h ⊢; simp only [cz_pair] at h; omega
def p_FnExactVaryFits (a0 : Req) (a1 : Rsp) (a2 : List Fld) : Prop := wd a0 ∧ wd a1 ∧ wd a2
theorem laws_FnExactVaryFits_ok (a0 : Req) (a1 : Rsp) (a2 : List Fld) (h : p_FnExactVaryFits a0 a1 a2) : s_laws_FnExactVaryFits a0 a1 a2 (fun r => r = true) := by
  obtain ⟨w0, w1, w2⟩ := h
  refine ⟨⟨w0, by omega, by simp [capI]⟩, fun _ => rfl, fun hs0 => ⟨pSz_next hs0 (by omega) (by omega) w1, fun _ => rfl, fun hs1 => ?_⟩⟩
  have k0 := szF_le a0 (k := 1048576) (by omega)
  have m0 : md a0 := szF_md hs0 (by omega) (by omega)
  have m1 : md a1 := szF_md hs1 (by omega) (by omega)
  have k1 := szF_le a1 (k := szF a0 1048576) (by omega)
  refine ⟨pSz_next hs1 (by omega) (by omega) w2, fun _ => rfl, fun hs2 => ?_⟩
  have m2 : md a2 := szF_md hs2 (by omega) (by omega)
  refine ⟨m0, m1, m2, ⟨md_req m0, md_rsp m1⟩, m0, m1, m2, ⟨md_req m0, md_rsp m1⟩, fun hne => absurd rfl hne, fun _ => ⟨m0, w0, fun hne => absurd (eqF_iff.2 rfl) hne, fun _ => ⟨m1, w1, fun hne => absurd (eqF_iff.2 rfl) hne, fun _ => ⟨m2, w2, fun hne => absurd (eqF_iff.2 rfl) hne, fun _ => rfl⟩⟩⟩⟩
def p_FnExactMayShare (a0 : Req) (a1 : Flt) (a2 : Int) : Prop := wd a0 ∧ wd a1 ∧ wd a2
theorem laws_FnExactMayShare_ok (a0 : Req) (a1 : Flt) (a2 : Int) (h : p_FnExactMayShare a0 a1 a2) : s_laws_FnExactMayShare a0 a1 a2 (fun r => r = true) := by
  obtain ⟨w0, w1, w2⟩ := h
  refine ⟨⟨w0, by omega, by simp [capI]⟩, fun _ => rfl, fun hs0 => ⟨pSz_next hs0 (by omega) (by omega) w1, fun _ => rfl, fun hs1 => ?_⟩⟩
  have k0 := szF_le a0 (k := 1048576) (by omega)
  have m0 : md a0 := szF_md hs0 (by omega) (by omega)
  have m1 : md a1 := szF_md hs1 (by omega) (by omega)
  exact ⟨m0, m1, ⟨m0, m1⟩, m0, m1, ⟨m0, m1⟩, fun hne => absurd rfl hne, fun _ => ⟨m0, w0, fun hne => absurd (eqF_iff.2 rfl) hne, fun _ => ⟨m1, w1, fun hne => absurd (eqF_iff.2 rfl) hne, fun _ => rfl⟩⟩⟩
def p_FnExactStorable (a0 : Req) (a1 : Rsp) : Prop := wd a0 ∧ wd a1
theorem laws_FnExactStorable_ok (a0 : Req) (a1 : Rsp) (h : p_FnExactStorable a0 a1) : s_laws_FnExactStorable a0 a1 (fun r => r = true) := by
  obtain ⟨w0, w1⟩ := h
  refine ⟨⟨w0, by omega, by simp [capI]⟩, fun _ => rfl, fun hs0 => ⟨pSz_next hs0 (by omega) (by omega) w1, fun _ => rfl, fun hs1 => ?_⟩⟩
  have k0 := szF_le a0 (k := 1048576) (by omega)
  have m0 : md a0 := szF_md hs0 (by omega) (by omega)
  have m1 : md a1 := szF_md hs1 (by omega) (by omega)
  exact ⟨m0, m1, ⟨m0, m1⟩, m0, m1, ⟨m0, m1⟩, fun hne => absurd rfl hne, fun _ => ⟨m0, w0, fun hne => absurd (eqF_iff.2 rfl) hne, fun _ => ⟨m1, w1, fun hne => absurd (eqF_iff.2 rfl) hne, fun _ => rfl⟩⟩⟩
end Go.Ev
end

section
/- Laws of the plain library: more of the laws' functions. -/
set_option linter.unusedVariables false
namespace Go.Ev
def p_FnExactStoredOk (a0 : Sto) : Prop := wd a0
theorem laws_FnExactStoredOk_ok (a0 : Sto) (h : p_FnExactStoredOk a0) : s_laws_FnExactStoredOk a0 (fun r => r = true) := by
  refine ⟨⟨h, by omega, by simp [capI]⟩, fun _ => rfl, fun hs => ?_⟩
  have hm : md a0 := szF_md hs (by omega) (by omega)
  exact ⟨hm, hm, hm, hm, fun hne => absurd rfl hne, fun _ => ⟨hm, h, fun hne => absurd (eqF_iff.2 rfl) hne, fun _ => rfl⟩⟩
def p_FnExactNormal (a0 : S) : Prop := wd a0
theorem laws_FnExactNormal_ok (a0 : S) (h : p_FnExactNormal a0) : s_laws_FnExactNormal a0 (fun r => r = true) := by
  refine ⟨fun _ => rfl, fun hs => ?_⟩
  have hp : pNormal a0 := by unfold pNormal; omega
  exact ⟨hp, hp, fun hne => absurd rfl hne, fun _ => rfl⟩
def p_FnExactVersionIn (a0 : Rsp) : Prop := wd a0
theorem laws_FnExactVersionIn_ok (a0 : Rsp) (h : p_FnExactVersionIn a0) : s_laws_FnExactVersionIn a0 (fun r => r = true) := by
  refine ⟨⟨h, by omega, by simp [capI]⟩, fun _ => rfl, fun hs => ?_⟩
  have hm : md a0 := szF_md hs (by omega) (by omega)
  have hv : pVersionIn a0 := md_rsp hm
  exact ⟨hm, hv, hm, hv, fun hne => absurd rfl hne, fun _ => ⟨hm, h, fun hne => absurd (eqF_iff.2 rfl) hne, fun _ => rfl⟩⟩
end Go.Ev
end

section
/- Laws of the plain library, third part: texts out of texts. -/
set_option linter.unusedVariables false
namespace Go.Ev

/-! ### Lower -/
theorem bytesOf_ints (s : S) : bytesOf s = ints s := rfl
theorem lowI (b : UInt8) : ((lowB b).toNat : Int) = if 65 ≤ (b.toNat : Int) ∧ (b.toNat : Int) ≤ 90 then (b.toNat : Int) + 32 else (b.toNat : Int) := by
  unfold lowB
  split
  · next h =>
    rw [if_pos (by omega)]
    have : (b + 32).toNat = b.toNat + 32 := by
      rw [UInt8.toNat_add]
      have : (32 : UInt8).toNat = 32 := rfl
      rw [this]
      omega
    omega
  · next h => rw [if_neg (by omega)]
theorem strOf_map (l : List UInt8) : strOf (l.map fun b => (b.toNat : Int)) = ob l := by
  unfold strOf ob
  congr 2
  rw [List.map_map]
  conv => rhs; rw [← List.map_id l]
  apply List.map_congr_left
  intro b _
  simp
theorem spec_Lower_ok (a0 : S) (h : pLower a0) : s_spec_Lower a0 (fun r => r = mLower a0) := by
  unfold pLower sm at h
  refine ⟨by omega, fun L hL => ?_⟩
  rw [bytesOf_ints]
  let f : List UInt8 → List Int := fun l => l.map fun b => (b.toNat : Int)
  have hl := bs_len a0
  refine loopG hL a0.size (fun i y => y.1 = (i : Int) ∧ y.2 = f (((bs a0).take i).map lowB ++ (bs a0).drop i)) (fun i y hi hI hn => ?_) (s0 := (0, ints a0)) ⟨rfl, by simp [f, ints]⟩
  obtain ⟨y1, y2⟩ := y
  simp only at hI ⊢
  obtain ⟨rfl, rfl⟩ := hI
  have hlen : (f (((bs a0).take i).map lowB ++ (bs a0).drop i)).length = a0.size := by
    simp only [f, List.length_map, List.length_append, List.length_take, List.length_drop]
    omega
  refine ⟨fun hlt => ?_, fun hge => ?_⟩
  · rw [hlen] at hlt ⊢
    have hi2 : i < a0.size := by omega
    have hi3 : i < (bs a0).length := by omega
    have hget : rx (f (((bs a0).take i).map lowB ++ (bs a0).drop i)) (i : Int) = ((bs a0)[i].toNat : Int) := by
      rw [rx_get _ (by rw [hlen]; exact hi2)]
      simp only [f, List.getElem_map]
      rw [List.getElem_append_right (by simp; omega)]
      simp only [List.length_map, List.length_take, List.getElem_drop]
      congr 3
      omega
    have hlow := lowI (bs a0)[i]
    have hb := (bs a0)[i].toNat_lt
    have hset : ∀ v : Int, v = ((lowB (bs a0)[i]).toNat : Int) → (f (((bs a0).take i).map lowB ++ (bs a0).drop i)).set ((i : Int).toNat) v = f (((bs a0).take (i + 1)).map lowB ++ (bs a0).drop (i + 1)) := fun v hv => by
      rw [hv, Int.toNat_natCast, take_succ_app hi3]
      simp only [f, List.map_append, List.map_cons, List.map_nil]
      rw [List.set_append_right _ _ (by simp; omega)]
      simp only [List.length_map, List.length_take]
      rw [show i - min i (bs a0).length = 0 by omega, ← List.getElem_cons_drop (h := hi3)]
      simp
    have hkeep : (bs a0)[i].toNat = (lowB (bs a0)[i]).toNat → f (((bs a0).take i).map lowB ++ (bs a0).drop i) = f (((bs a0).take (i + 1)).map lowB ++ (bs a0).drop (i + 1)) := fun hv => by
      rw [take_succ_app hi3]
      simp only [f, List.map_append, List.map_cons, List.map_nil]
      rw [← List.getElem_cons_drop (h := hi3)]
      simp only [List.map_cons, List.append_assoc, List.cons_append, List.nil_append, hv]
    have hw : IntKind.i64.wrap ((i : Int) + 1) = ((i + 1 : Nat) : Int) := wrapS (by omega)
    rw [hget, hw]
    refine ⟨by omega, by omega, fun h1 => ⟨by omega, by omega, fun h2 => ⟨by omega, by omega, by omega, by omega, ?_⟩, fun h2 => ?_⟩, fun h1 => ?_⟩
    · refine hn _ hi2 ⟨rfl, hset _ ?_⟩
      rw [hlow, if_pos ⟨h1, h2⟩, wrap8 (by omega) (by omega)]
    · refine hn _ hi2 ⟨rfl, hkeep ?_⟩
      rw [if_neg (by omega)] at hlow
      omega
    · refine hn _ hi2 ⟨rfl, hkeep ?_⟩
      rw [if_neg (by omega)] at hlow
      omega
  · rw [hlen] at hge
    have e : i = (bs a0).length := by omega
    rw [e, List.drop_length, List.take_length, List.append_nil]
    exact strOf_map _

/-! ### Joining -/
theorem joinL_snoc (sep : S) : ∀ (vs : List S) (v : S), joinL sep (vs ++ [v]) = if vs = [] then v else joinL sep vs ++ sep ++ v
  | [], v => rfl
  | [x], v => rfl
  | x :: y :: r, v => by
    have ih := joinL_snoc sep (y :: r) v
    simp only [List.cons_append, joinL, reduceCtorEq, if_false] at ih ⊢
    rw [ih]
    apply bs_inj
    simp only [bs_append, List.append_assoc]
theorem joinL_size (sep : S) : ∀ (vs : List S), (joinL sep vs).size ≤ sumN (vs.map fun x => x.size) + vs.length * sep.size
  | [] => by show (lit []).size ≤ _; exact Nat.zero_le _
  | [x] => by simp only [joinL, List.map_cons, List.map_nil, sumN, List.length_singleton]; omega
  | x :: y :: r => by
    have ih := joinL_size sep (y :: r)
    simp only [joinL, size_append, List.map_cons, sumN, List.length_cons] at ih ⊢
    rw [Nat.succ_mul]
    omega
theorem sumN_append : ∀ (a b : List Nat), sumN (a ++ b) = sumN a + sumN b
  | [], b => by simp [sumN]
  | x :: a, b => by simp only [List.cons_append, sumN, sumN_append a b]; omega
theorem valuesOf_bound (n : S) : ∀ (l : List Fld), sumN ((valuesOf l n).map fun x => x.size) + (valuesOf l n).length ≤ cz l
  | [] => by simp [valuesOf, sumN]
  | f :: l => by
    have ih := valuesOf_bound n l
    simp only [valuesOf, cz_list, List.filter_cons, List.length_cons, List.map_cons, sumN, cz_pair, cz_str] at ih ⊢
    split
    · simp only [List.map_cons, sumN, List.length_cons]; omega
    · omega
theorem valuesOf_take (l : List Fld) (n : S) {i : Nat} (h : i < l.length) : valuesOf (l.take (i + 1)) n = if l[i].1 = n then valuesOf (l.take i) n ++ [l[i].2] else valuesOf (l.take i) n := by
  rw [take_succ_app h]
  unfold valuesOf
  rw [List.filter_append, List.map_append]
  by_cases e : l[i].1 = n
  · simp [e]
  · simp [e]
theorem sum_take' {α : Type} (c : α → Nat) (l : List α) (i : Nat) : sumN ((l.take i).map c) ≤ sumN (l.map c) := by
  have h : sumN (l.map c) = sumN ((l.take i).map c) + sumN ((l.drop i).map c) := by
    rw [← sumN_append, ← List.map_append, List.take_append_drop]
  omega
theorem cz_take {α : Type} [Cz α] (l : List α) (i : Nat) : cz (l.take i) ≤ cz l := by
  have h : sumN (l.map cz) = sumN ((l.take i).map cz) + sumN ((l.drop i).map cz) := by
    rw [← sumN_append, ← List.map_append, List.take_append_drop]
  simp only [cz_list, List.length_take]
  omega
theorem sep_size : (lit [44, 32]).size = 2 := rfl
theorem spec_FieldGet_ok (a0 : List Fld) (a1 : S) (h : pFieldGet a0 a1) : s_spec_FieldGet a0 a1 (fun r => r = mFieldGet a0 a1) := by
  intro L hL
  have hlen := md_len' h
  have hb : ∀ i, (joinL (lit [44, 32]) (valuesOf (a0.take i) a1)).size ≤ 3 * 1048576 := fun i => by
    have h1 := joinL_size (lit [44, 32]) (valuesOf (a0.take i) a1)
    have h2 := valuesOf_bound a1 (a0.take i)
    have h3 := cz_take a0 i
    have h4 : cz a0 ≤ 1048576 := h
    rw [sep_size] at h1
    omega
  refine loopG hL a0.length (fun i y => y.2.2 = (i : Int) ∧ y.1 = joinL (lit [44, 32]) (valuesOf (a0.take i) a1) ∧ y.2.1 = decide (valuesOf (a0.take i) a1 ≠ [])) (fun i y hi hI hn => ?_) (s0 := (lit [], false, 0)) ⟨rfl, rfl, rfl⟩
  obtain ⟨y1, y2, y3⟩ := y
  simp only at hI ⊢
  obtain ⟨rfl, rfl, rfl⟩ := hI
  refine ⟨fun hlt => ?_, fun hge => ?_⟩
  · have hi2 : i < a0.length := by omega
    have hv := valuesOf_take a0 a1 hi2
    have hval : cz a0[i] ≤ 1048576 := md_mem h (List.getElem_mem hi2)
    simp only [cz_pair, cz_str] at hval
    have hbi := hb i
    rw [rx_get a0 hi2, wrapS (by omega)]
    refine ⟨by omega, by omega, fun hne => hn _ hi2 ⟨rfl, ?_, ?_⟩, fun heq => ?_⟩
    · rw [hv, if_neg hne]
    · rw [hv, if_neg hne]
    · have heq : a0[i].1 = a1 := Classical.not_not.1 heq
      rw [if_pos heq] at hv
      refine ⟨fun hs => ?_, fun hs => ?_⟩
      · have hs := of_decide_eq_true hs
        refine ⟨by rw [sep_size]; omega, by omega, by omega, by rw [size_append, sep_size]; omega, hn _ hi2 ⟨rfl, ?_, ?_⟩⟩
        · rw [hv, joinL_snoc, if_neg hs]
        · rw [hv]; simp
      · have hs : valuesOf (a0.take i) a1 = [] := by simpa using hs
        refine ⟨by omega, by omega, by omega, hn _ hi2 ⟨rfl, ?_, ?_⟩⟩
        · rw [hv, hs, joinL_snoc, if_pos rfl]
          apply bs_inj; rw [bs_append]; rfl
        · rw [hv]; simp
  · have e : a0.take i = a0 := List.take_of_length_le (by omega)
    rw [e]
    unfold mFieldGet mJoin
    congr 1
    rw [decide_eq_decide]
    rw [List.length_pos_iff]
theorem pJoin_values (a0 : List Fld) (a1 : S) (h : pFieldGet a0 a1) : pJoin (valuesOf a0 a1) (lit [44, 32]) := by
  have h2 := valuesOf_bound a1 a0
  have h4 : cz a0 ≤ 1048576 := h
  exact ⟨by omega, by omega, by rw [sep_size]; omega⟩
theorem impl_FieldGet_ok (a0 : List Fld) (a1 : S) (h : pFieldGet a0 a1) : s_impl_FieldGet a0 a1 (fun r => r = mFieldGet a0 a1) := by
  intro L hL
  have hlen := md_len' h
  refine loopG hL a0.length (fun i y => y.2 = (i : Int) ∧ y.1 = valuesOf (a0.take i) a1) (fun i y hi hI hn => ?_) (s0 := ([], 0)) ⟨rfl, rfl⟩
  obtain ⟨y1, y2⟩ := y
  simp only at hI ⊢
  obtain ⟨rfl, rfl⟩ := hI
  refine ⟨fun hlt => ?_, fun hge => ?_⟩
  · have hi2 : i < a0.length := by omega
    have hv := valuesOf_take a0 a1 hi2
    have h2 := valuesOf_bound a1 (a0.take i)
    have h3 := cz_take a0 i
    have h4 : cz a0 ≤ 1048576 := h
    rw [rx_get a0 hi2, wrapS (by omega)]
    refine ⟨by omega, by omega, fun he => ⟨by simp only [List.length_singleton]; omega, hn _ hi2 ⟨rfl, by rw [hv, if_pos he]⟩⟩, fun hne => hn _ hi2 ⟨rfl, by rw [hv, if_neg hne]⟩⟩
  · have e : a0.take i = a0 := List.take_of_length_le (by omega)
    rw [e]
    refine ⟨pJoin_values a0 a1 h, ?_⟩
    unfold mFieldGet
    congr 1
    rw [decide_eq_decide]
    omega
theorem fieldGet_size (a0 : List Fld) (a1 : S) (h : pFieldGet a0 a1) : (mFieldGet a0 a1).1.size ≤ 3 * 1048576 := by
  have h1 := joinL_size (lit [44, 32]) (valuesOf a0 a1)
  have h2 := valuesOf_bound a1 a0
  have h4 : cz a0 ≤ 1048576 := h
  rw [sep_size] at h1
  unfold mFieldGet mJoin
  simp only
  omega

/-! ### Parts -/
theorem partsL_nil (q : Bool) (cur : List UInt8) : partsL q cur [] = [cur] := by cases q <;> rfl
theorem partsL_one (cur : List UInt8) (b : UInt8) : partsL true cur [b] = [cur ++ [b]] := rfl
theorem partsL_in (cur : List UInt8) (b c : UInt8) (r : List UInt8) : partsL true cur (b :: c :: r) = if b = 34 then partsL false (cur ++ [b]) (c :: r) else if b = 92 then partsL true (cur ++ [b, c]) r else partsL true (cur ++ [b]) (c :: r) := by rw [partsL]
theorem partsL_out (cur : List UInt8) (b : UInt8) (r : List UInt8) : partsL false cur (b :: r) = if b = 34 then partsL true (cur ++ [b]) r else if b = 44 then cur :: partsL false [] r else partsL false (cur ++ [b]) r := by rw [partsL]
theorem partsL_bound : ∀ (q : Bool) (cur l : List UInt8), sumN ((partsL q cur l).map List.length) ≤ cur.length + l.length ∧ (partsL q cur l).length ≤ l.length + 1
  | q, cur, [] => by rw [partsL_nil]; simp [sumN]
  | true, cur, [b] => by rw [partsL_one]; simp [sumN]
  | true, cur, b :: c :: r => by
    rw [partsL_in]
    split
    · have := partsL_bound false (cur ++ [b]) (c :: r)
      simp only [List.length_append, List.length_cons, List.length_nil] at this ⊢
      omega
    · split
      · have := partsL_bound true (cur ++ [b, c]) r
        simp only [List.length_append, List.length_cons, List.length_nil] at this ⊢
        omega
      · have := partsL_bound true (cur ++ [b]) (c :: r)
        simp only [List.length_append, List.length_cons, List.length_nil] at this ⊢
        omega
  | false, cur, b :: r => by
    rw [partsL_out]
    split
    · have := partsL_bound true (cur ++ [b]) r
      simp only [List.length_append, List.length_cons, List.length_nil] at this ⊢
      omega
    · split
      · have := partsL_bound false [] r
        simp only [List.length_append, List.length_cons, List.length_nil, List.map_cons, sumN] at this ⊢
        omega
      · have := partsL_bound false (cur ++ [b]) r
        simp only [List.length_append, List.length_cons, List.length_nil] at this ⊢
        omega
theorem dropWhile_le {α : Type} (p : α → Bool) (l : List α) : (l.dropWhile p).length ≤ l.length := (List.dropWhile_sublist p).length_le
theorem trimS_le (l cs : List UInt8) : (Lib.trimS l cs).length ≤ l.length := by
  unfold Lib.trimS Lib.trimLeftS Lib.trimRightS
  have h1 := dropWhile_le (cs.contains ·) ((l.reverse.dropWhile (cs.contains ·)).reverse)
  have h2 := dropWhile_le (cs.contains ·) l.reverse
  simp only [List.length_reverse] at h1 h2
  omega
theorem mTrim_le (s : S) : (mTrim s).size ≤ s.size := by
  unfold mTrim
  rw [ob_size, ← bs_len]
  exact trimS_le _ _
theorem trimmed_bound : ∀ (l : List (List UInt8)), sumN ((trimmed l).map fun x => x.size) ≤ sumN (l.map List.length) ∧ (trimmed l).length ≤ l.length
  | [] => by simp [trimmed, sumN]
  | p :: l => by
    have ih := trimmed_bound l
    have h := mTrim_le (ob p)
    rw [ob_size] at h
    simp only [trimmed, List.map_cons, List.filter_cons] at ih ⊢
    split
    · simp only [List.map_cons, sumN, List.length_cons]; omega
    · simp only [sumN, List.length_cons]; omega
theorem splitList_bound (s : S) : sumN ((mSplitList s).map fun x => x.size) ≤ s.size ∧ (mSplitList s).length ≤ s.size + 1 := by
  have h1 := partsL_bound false [] (bs s)
  have h2 := trimmed_bound (partsL false [] (bs s))
  rw [bs_len] at h1
  unfold mSplitList
  simp only [List.length_nil] at h1
  omega
theorem splitList_mem {s x : S} (h : x ∈ mSplitList s) : x.size ≤ s.size := by
  have h1 := (splitList_bound s).1
  have h2 := sumN_mem (List.mem_map.2 ⟨x, h, rfl⟩ : x.size ∈ (mSplitList s).map fun x => x.size)
  omega
theorem pJoin_parts (a0 : S) (h : a0.size ≤ 1048576 * 16) : pJoin (mSplitList a0) (lit [44, 32]) := by
  have hb := splitList_bound a0
  exact ⟨by omega, by omega, by rw [sep_size]; omega⟩
theorem impl_Normal_ok (a0 : S) (h : pNormal a0) : s_impl_Normal a0 (fun r => r = mNormal a0) := by
  unfold pNormal at h
  exact ⟨by unfold pSplitList sm; omega, pJoin_parts a0 (by omega), rfl⟩
theorem spec_Normal_ok (a0 : S) (h : pNormal a0) : s_spec_Normal a0 (fun r => r = mNormal a0) := by
  unfold pNormal at h
  refine ⟨by unfold pSplitList sm; omega, fun L hL => ?_⟩
  have hb := splitList_bound a0
  have hsz : ∀ i, (joinL (lit [44, 32]) ((mSplitList a0).take i)).size ≤ a0.size + 2 * (a0.size + 1) := fun i => by
    have h1 := joinL_size (lit [44, 32]) ((mSplitList a0).take i)
    have h2 : sumN (((mSplitList a0).take i).map fun x => x.size) ≤ sumN ((mSplitList a0).map fun x => x.size) := sum_take' (fun x : S => x.size) _ _
    rw [sep_size, List.length_take] at h1
    omega
  refine loopG hL (mSplitList a0).length (fun i y => y.2 = (i : Int) ∧ y.1 = joinL (lit [44, 32]) ((mSplitList a0).take i)) (fun i y hi hI hn => ?_) (s0 := (lit [], 0)) ⟨rfl, rfl⟩
  obtain ⟨y1, y2⟩ := y
  simp only at hI ⊢
  obtain ⟨rfl, rfl⟩ := hI
  have hs := hsz i
  refine ⟨fun hlt => ?_, fun hge => ?_⟩
  · have hi2 : i < (mSplitList a0).length := by omega
    have hx := splitList_mem (List.getElem_mem hi2)
    have hj := joinL_snoc (lit [44, 32]) ((mSplitList a0).take i) (mSplitList a0)[i]
    rw [← take_succ_app hi2] at hj
    rw [rx_get _ hi2, wrapS (by omega)]
    refine ⟨fun h0 => ⟨by rw [sep_size]; omega, by omega, by omega, by rw [size_append, sep_size]; omega, hn _ hi2 ⟨rfl, ?_⟩⟩, fun h0 => ⟨by omega, by omega, by omega, hn _ hi2 ⟨rfl, ?_⟩⟩⟩
    · rw [hj, if_neg]
      intro e
      have := congrArg List.length e
      simp only [List.length_take, List.length_nil] at this
      omega
    · have e : i = 0 := by omega
      subst e
      rw [hj, List.take_zero, if_pos rfl]
      apply bs_inj; rw [bs_append]; rfl
  · have e : (mSplitList a0).take i = mSplitList a0 := List.take_of_length_le (by omega)
    rw [e]; rfl

/-! ### Directives, asked for -/
theorem impl_CcHas_ok' (a0 : List Fld) (a1 : S) (h : pCcHas a0 a1) (hd : (mDirectives a0).length ≤ maxLen) : s_impl_CcHas a0 a1 (fun r => r = mCcHas a0 a1) := ⟨h, hd, rfl⟩
theorem directives_len (a0 : List Fld) (h : pDirectives a0) : (mDirectives a0).length ≤ 3 * 1048576 + 1 := by
  have h1 := List.length_filterMap_le dirOf (mSplitList (mFieldGet a0 nameCC).1)
  have h2 := (splitList_bound (mFieldGet a0 nameCC).1).2
  have h3 := fieldGet_size a0 nameCC h
  unfold mDirectives
  omega
theorem impl_CcHas_ok (a0 : List Fld) (a1 : S) (h : pCcHas a0 a1) : s_impl_CcHas a0 a1 (fun r => r = mCcHas a0 a1) := by
  have hd := directives_len a0 h
  exact ⟨h, by unfold pContainsFunc_CcHas_1; simp only [maxLen]; omega, rfl⟩
theorem spec_CcHas_ok (a0 : List Fld) (a1 : S) (h : pCcHas a0 a1) : s_spec_CcHas a0 a1 (fun r => r = mCcHas a0 a1) := by
  have hd := directives_len a0 h
  refine ⟨h, scanT_ok (C := fun x : Fld => x.1 = a1) (Qh := fun _ => true = mCcHas a0 a1) (by simp only [maxLen]; omega) (fun i hi hc _ => ?_) (fun hx => ?_)⟩
  · unfold mCcHas mCcHas_1
    exact (any_true hi (by simpa using hc)).symm
  · unfold mCcHas mCcHas_1
    exact (List.any_eq_false.2 fun x hx' => by have := hx x hx'; simpa using this).symm
theorem impl_CcHas_1_ok (a0 : Fld) (a1 : S) (h : pCcHas_1 a0 a1) : s_impl_CcHas_1 a0 a1 (fun r => r = mCcHas_1 a0 a1) := rfl
theorem impl_Storable_1_ok (a0 : S) (a1 : Rsp) (h : pStorable_1 a0 a1) : s_impl_Storable_1 a0 a1 (fun r => r = mStorable_1 a0 a1) := ⟨h, rfl⟩
end Go.Ev
end

section
/- Laws of the plain library, fourth part: parts of texts. -/
set_option linter.unusedVariables false
namespace Go.Ev

/-! ### Trim -/
def blk (b : UInt8) : Bool := [(32 : UInt8), 9].contains b
theorem blk_iff (b : UInt8) : blk b = true ↔ mBlank (b.toNat : Int) = true := by
  have h : ∀ n : Fin 256, (blk (UInt8.ofNat n.val) = true) ↔ mBlank (n.val : Int) = true := by decide +kernel
  have := h ⟨b.toNat, b.toNat_lt⟩
  simpa using this
theorem trimS_cons {b : UInt8} (h : blk b = true) (l : List UInt8) : Lib.trimS (b :: l) [32, 9] = Lib.trimS l [32, 9] := by
  have h' : [(32 : UInt8), 9].contains b = true := h
  unfold Lib.trimS Lib.trimLeftS Lib.trimRightS
  rw [List.reverse_cons, List.dropWhile_append]
  split
  · next hd =>
    have hd : l.reverse.dropWhile (fun x => [(32 : UInt8), 9].contains x) = [] := by simpa using hd
    rw [hd]
    have : List.dropWhile (fun x => [(32 : UInt8), 9].contains x) [b] = [] := by
      rw [List.dropWhile_cons, if_pos h']; rfl
    rw [this]
  · rw [List.reverse_append, List.reverse_singleton, List.singleton_append, List.dropWhile_cons, if_pos h']
theorem trimS_snoc {b : UInt8} (h : blk b = true) (l : List UInt8) : Lib.trimS (l ++ [b]) [32, 9] = Lib.trimS l [32, 9] := by
  have h' : [(32 : UInt8), 9].contains b = true := h
  unfold Lib.trimS Lib.trimRightS
  rw [List.reverse_append, List.reverse_singleton, List.singleton_append, List.dropWhile_cons, if_pos h']
theorem trimS_id {l : List UInt8} (h0 : ∀ b, l.head? = some b → blk b = false) (h1 : ∀ b, l.getLast? = some b → blk b = false) : Lib.trimS l [32, 9] = l := by
  have key : ∀ l : List UInt8, (∀ b, l.head? = some b → blk b = false) → l.dropWhile (fun x => [(32 : UInt8), 9].contains x) = l := fun l h => by
    cases l with
    | nil => rfl
    | cons b r =>
      rw [List.dropWhile_cons, if_neg]
      have := h b rfl
      unfold blk at this
      rw [this]; simp
  unfold Lib.trimS Lib.trimLeftS Lib.trimRightS
  rw [key l.reverse (fun b hb => h1 b (by rw [List.head?_reverse] at hb; exact hb)), List.reverse_reverse, key l h0]
theorem bs_ext {s t : S} : s = t ↔ bs s = bs t := ⟨fun h => by rw [h], bs_inj⟩
theorem spec_Trim_ok (a0 : S) (h : pTrim a0) : s_spec_Trim a0 (fun r => r = mTrim a0) := by
  unfold pTrim sm at h
  -- the second loop
  have back : ∀ y : S, y.size ≤ a0.size → mTrim y = mTrim a0 → (∀ b, (bs y).head? = some b → blk b = false) → ∀ L2 : S → Prop,
      (∀ y3 : S, ((0 < (y3.size : Int) → 0 ≤ IntKind.i64.wrap ((y3.size : Int) - 1) ∧ IntKind.i64.wrap ((y3.size : Int) - 1) < (y3.size : Int) ∧ pBlank (bt y3 (IntKind.i64.wrap ((y3.size : Int) - 1))) ∧
          (mBlank (bt y3 (IntKind.i64.wrap ((y3.size : Int) - 1))) = true → 0 ≤ IntKind.i64.wrap ((y3.size : Int) - 1) ∧ IntKind.i64.wrap ((y3.size : Int) - 1) ≤ (y3.size : Int) ∧ L2 (y3.extract 0 (IntKind.i64.wrap ((y3.size : Int) - 1)).toNat)) ∧
          (¬ mBlank (bt y3 (IntKind.i64.wrap ((y3.size : Int) - 1))) = true → y3 = mTrim a0)) ∧
        (¬ 0 < (y3.size : Int) → y3 = mTrim a0)) → L2 y3) → L2 y := by
    intro y hy hm hh L2 hL
    refine loopI hL (fun y => y.size ≤ a0.size ∧ mTrim y = mTrim a0 ∧ ∀ b, (bs y).head? = some b → blk b = false) (fun y => y.size) (fun y ⟨hy, hm, hh⟩ ih => ?_) y ⟨hy, hm, hh⟩
    refine ⟨fun h0 => ?_, fun h0 => ?_⟩
    · have hpos : 0 < y.size := by omega
      have hw : IntKind.i64.wrap ((y.size : Int) - 1) = ((y.size - 1 : Nat) : Int) := by rw [wrap64 (by omega) (by omega)]; omega
      rw [hw]
      have hlen := bs_len y
      have hb := bt_nat y (y.size - 1) (by omega)
      have hlast : (bs y).getLast? = some ((bs y)[y.size - 1]'(by omega)) := by
        rw [List.getLast?_eq_getElem?]
        simp only [hlen]
        exact List.getElem?_eq_getElem _
      refine ⟨by omega, by omega, trivial, fun hbl => ⟨by omega, by omega, ?_⟩, fun hbl => ?_⟩
      · rw [Int.toNat_natCast]
        have hcut : bs (y.extract 0 (y.size - 1)) = (bs y).take (y.size - 1) := by rw [bs_extract]; simp
        have hspl : bs y = (bs y).take (y.size - 1) ++ [(bs y)[y.size - 1]'(by omega)] := by
          rw [← take_succ_app (by omega), List.take_of_length_le (by omega)]
        refine ih _ ⟨?_, ?_, fun b hb2 => ?_⟩ ?_
        · rw [← bs_len, hcut, List.length_take]; omega
        · rw [← hm]
          unfold mTrim
          rw [hcut]
          conv => rhs; rw [hspl]
          rw [trimS_snoc]
          rw [blk_iff, ← hb]; exact hbl
        · rw [hcut] at hb2
          refine hh b ?_
          rw [hspl]
          cases hx : (bs y).take (y.size - 1) with
          | nil => rw [hx] at hb2; cases hb2
          | cons c r => rw [hx] at hb2; simpa using hb2
        · rw [← bs_len, hcut, List.length_take]; omega
      · rw [← hm]
        unfold mTrim
        rw [trimS_id hh]
        · rfl
        · intro b hb2
          rw [hlast] at hb2
          injection hb2 with hb2
          rw [← hb2]
          cases hx : blk (bs y)[y.size - 1] with
          | false => rfl
          | true =>
            rw [blk_iff, ← hb] at hx
            exact absurd hx hbl
    · rw [← hm]
      have : bs y = [] := List.eq_nil_of_length_eq_zero (by rw [bs_len]; omega)
      apply bs_inj
      unfold mTrim
      rw [this]; rfl
  intro L hL
  refine loopI hL (fun y => y.size ≤ a0.size ∧ mTrim y = mTrim a0) (fun y => y.size) (fun y ⟨hy, hm⟩ ih => ?_) a0 ⟨Nat.le_refl _, rfl⟩
  have hlen := bs_len y
  refine ⟨fun h0 => ?_, fun h0 => ?_⟩
  · have hpos : 0 < y.size := by omega
    have hb := bt_nat y 0 hpos
    have hcons : bs y = (bs y)[0]'(by omega) :: (bs y).drop 1 := by
      conv => lhs; rw [← List.drop_zero (l := bs y)]
      exact (List.getElem_cons_drop (h := by omega)).symm
    refine ⟨by omega, by omega, trivial, fun hbl => ⟨by omega, by omega, ?_⟩, fun hbl L2 hL2 => ?_⟩
    · have hcut : bs (y.extract ((1 : Int).toNat) y.size) = (bs y).drop 1 := by
        rw [bs_extract]
        exact List.take_of_length_le (by rw [List.length_drop, hlen]; omega)
      refine ih _ ⟨?_, ?_⟩ ?_
      · rw [← bs_len, hcut, List.length_drop]; omega
      · rw [← hm]
        unfold mTrim
        rw [hcut]
        conv => rhs; rw [hcons]
        rw [trimS_cons]
        rw [blk_iff, ← hb]; exact hbl
      · rw [← bs_len, hcut, List.length_drop]; omega
    · refine back y hy hm (fun b hb2 => ?_) L2 hL2
      rw [hcons] at hb2
      injection hb2 with hb2
      rw [← hb2]
      cases hx : blk (bs y)[0] with
      | false => rfl
      | true =>
        rw [blk_iff, ← hb] at hx
        exact absurd hx hbl
  · intro L2 hL2
    refine back y hy hm (fun b hb2 => ?_) L2 hL2
    have : bs y = [] := List.eq_nil_of_length_eq_zero (by omega)
    rw [this] at hb2; cases hb2

/-! ### Names, each once -/
theorem onceL_append : ∀ (out a b : List S), onceL out (a ++ b) = onceL (onceL out a) b
  | out, [], b => rfl
  | out, x :: a, b => by
    simp only [List.cons_append, onceL]
    exact onceL_append _ a b
theorem onceL_len : ∀ (out a : List S), (onceL out a).length ≤ out.length + a.length
  | out, [] => by simp [onceL]
  | out, x :: a => by
    simp only [onceL, List.length_cons]
    have := onceL_len (if out.any (fun y => decide (x = y)) then out else out ++ [x]) a
    split at this
    · rename_i h; rw [if_pos h]; omega
    · rename_i h; rw [if_neg h]; simp only [List.length_append, List.length_singleton] at this; omega
theorem onceL_snoc (out l : List S) (x : S) : onceL out (l ++ [x]) = if (onceL out l).any (fun y => decide (x = y)) then onceL out l else onceL out l ++ [x] := by
  rw [onceL_append]; rfl
theorem impl_VaryNames_ok (a0 : Rsp) (h : pVaryNames a0) : s_impl_VaryNames a0 (fun r => r = mVaryNames a0) := by
  have hc : lit [118, 97, 114, 121] = sVary := rfl
  unfold s_impl_VaryNames
  rw [hc]
  have hf := fieldGet_size a0.2.1 sVary h
  have hsp := splitList_bound (mFieldGet a0.2.1 sVary).1
  refine ⟨h, by unfold pSplitList sm; omega, fun L hL => ?_⟩
  generalize hl : mSplitList (mFieldGet a0.2.1 sVary).1 = l at hL hsp
  have hm : mVaryNames a0 = onceL [] (l.map mLower) := by unfold mVaryNames; rw [hl]
  have hmem : ∀ x ∈ l, sm x := fun x hx => by
    rw [← hl] at hx
    have := splitList_mem hx
    unfold sm; omega
  refine loopG hL l.length (fun i y => y.2 = (i : Int) ∧ y.1 = onceL [] ((l.take i).map mLower)) (fun i y hi hI hn => ?_) (s0 := ([], 0)) ⟨rfl, rfl⟩
  obtain ⟨y1, y2⟩ := y
  simp only at hI ⊢
  obtain ⟨rfl, rfl⟩ := hI
  have hlen := onceL_len [] ((l.take i).map mLower)
  simp only [List.length_nil, List.length_map, List.length_take] at hlen
  refine ⟨fun hlt => ?_, fun hge => ?_⟩
  · have hi2 : i < l.length := by omega
    have hs := onceL_snoc [] ((l.take i).map mLower) (mLower l[i])
    rw [← List.map_singleton (f := mLower), ← List.map_append, ← take_succ_app hi2] at hs
    rw [rx_get _ hi2, wrapS (by omega)]
    refine ⟨by omega, by omega, hmem _ (List.getElem_mem hi2), by unfold pContains_string; simp only [maxLen]; omega, fun hc => ⟨by simp only [List.length_singleton]; omega, hn _ hi2 ⟨rfl, ?_⟩⟩, fun hc => hn _ hi2 ⟨rfl, ?_⟩⟩
    · unfold mContains_string at hc
      rw [hs, if_neg hc]; rfl
    · unfold mContains_string at hc
      rw [hs, if_pos (Classical.not_not.1 hc)]
  · have e : l.take i = l := List.take_of_length_le (by omega)
    rw [e, hm]
theorem spec_VaryNames_ok (a0 : Rsp) (h : pVaryNames a0) : s_spec_VaryNames a0 (fun r => r = mVaryNames a0) := by
  have hc : lit [118, 97, 114, 121] = sVary := rfl
  unfold s_spec_VaryNames
  rw [hc]
  have hf := fieldGet_size a0.2.1 sVary h
  have hsp := splitList_bound (mFieldGet a0.2.1 sVary).1
  refine ⟨h, by unfold pSplitList sm; omega, fun L hL => ?_⟩
  generalize hl : mSplitList (mFieldGet a0.2.1 sVary).1 = l at hL hsp
  have hm : mVaryNames a0 = onceL [] (l.map mLower) := by unfold mVaryNames; rw [hl]
  have hmem : ∀ x ∈ l, sm x := fun x hx => by
    rw [← hl] at hx
    have := splitList_mem hx
    unfold sm; omega
  refine loopG hL l.length (fun i y => y.2 = (i : Int) ∧ y.1 = onceL [] ((l.take i).map mLower)) (fun i y hi hI hn => ?_) (s0 := ([], 0)) ⟨rfl, rfl⟩
  obtain ⟨y1, y2⟩ := y
  simp only at hI ⊢
  obtain ⟨rfl, rfl⟩ := hI
  have hlen := onceL_len [] ((l.take i).map mLower)
  simp only [List.length_nil, List.length_map, List.length_take] at hlen
  refine ⟨fun hlt => ?_, fun hge => ?_⟩
  · have hi2 : i < l.length := by omega
    have hs := onceL_snoc [] ((l.take i).map mLower) (mLower l[i])
    rw [← List.map_singleton (f := mLower), ← List.map_append, ← take_succ_app hi2] at hs
    rw [rx_get _ hi2, wrapS (by omega)]
    refine ⟨by omega, by omega, hmem _ (List.getElem_mem hi2), fun L2 hL2 => ?_⟩
    generalize ho : onceL [] ((l.take i).map mLower) = out at hL2 hs hlen
    refine loopG hL2 out.length (fun k y => y.2 = (k : Int) ∧ y.1 = (out.take k).any (fun y => decide (mLower l[i] = y))) (fun k y hk hI2 hn2 => ?_) (s0 := (false, 0)) ⟨rfl, rfl⟩
    obtain ⟨y3, y4⟩ := y
    simp only at hI2 ⊢
    obtain ⟨rfl, rfl⟩ := hI2
    refine ⟨fun hlt2 => ?_, fun hge2 => ?_⟩
    · have hk2 : k < out.length := by omega
      have ht : (out.take (k + 1)).any (fun y => decide (mLower l[i] = y)) = ((out.take k).any (fun y => decide (mLower l[i] = y)) || decide (mLower l[i] = out[k])) := by
        rw [take_succ_app hk2, List.any_append]; simp
      rw [wrapS (by omega)]
      refine ⟨fun hc => hn2 _ hk2 ⟨rfl, by rw [ht, hc]; rfl⟩, fun hc => ⟨by omega, by omega, hn2 _ hk2 ⟨rfl, ?_⟩⟩⟩
      rw [ht, rx_get out hk2]
      rw [Bool.not_eq_true] at hc
      rw [hc, Bool.false_or]
      exact decide_eq_decide.2 ⟨Eq.symm, Eq.symm⟩
    · have e : out.take k = out := List.take_of_length_le (by omega)
      rw [e]
      refine ⟨fun hc => ⟨by simp only [List.length_singleton]; omega, hn _ hi2 ⟨rfl, ?_⟩⟩, fun hc => hn _ hi2 ⟨rfl, ?_⟩⟩
      · rw [hs, if_neg hc]; rfl
      · rw [hs, if_pos (Classical.not_not.1 hc)]
  · have e : l.take i = l := List.take_of_length_le (by omega)
    rw [e, hm]
theorem varyNames_len (r : Rsp) (h : pVaryNames r) : (mVaryNames r).length ≤ 3 * 1048576 + 1 := by
  have hf := fieldGet_size r.2.1 sVary h
  have hsp := splitList_bound (mFieldGet r.2.1 sVary).1
  have := onceL_len [] ((mSplitList (mFieldGet r.2.1 sVary).1).map mLower)
  simp only [List.length_nil, List.length_map] at this
  unfold mVaryNames
  omega
theorem filterMap_take {α β : Type} (f : α → Option β) (l : List α) {i : Nat} (h : i < l.length) : (l.take (i + 1)).filterMap f = (l.take i).filterMap f ++ (match f l[i] with | some y => [y] | none => []) := by
  rw [take_succ_app h, List.filterMap_append]
  congr 1
  cases hf : f l[i] with
  | none => simp [hf]
  | some y => simp [hf]
theorem spec_Picked_ok (a0 : Req) (a1 : Rsp) (h : pPicked a0 a1) : s_spec_Picked a0 a1 (fun r => r = mPicked a0 a1) := by
  have hv := varyNames_len a1 h.2
  refine ⟨h.2, fun L hL => ?_⟩
  refine loopG hL (mVaryNames a1).length (fun i y => y.2 = (i : Int) ∧ y.1 = ((mVaryNames a1).take i).filterMap (pickOf a0)) (fun i y hi hI hn => ?_) (s0 := ([], 0)) ⟨rfl, rfl⟩
  obtain ⟨y1, y2⟩ := y
  simp only at hI ⊢
  obtain ⟨rfl, rfl⟩ := hI
  have hlen := List.length_filterMap_le (pickOf a0) ((mVaryNames a1).take i)
  rw [List.length_take] at hlen
  refine ⟨fun hlt => ?_, fun hge => ?_⟩
  · have hi2 : i < (mVaryNames a1).length := by omega
    have hs := filterMap_take (pickOf a0) (mVaryNames a1) hi2
    have hsz := fieldGet_size a0.2.2.1 (mVaryNames a1)[i] h.1
    rw [rx_get _ hi2, wrapS (by omega)]
    refine ⟨by omega, by omega, h.1, fun hc => ?_, fun hc => hn _ hi2 ⟨rfl, ?_⟩⟩
    · refine ⟨by omega, by omega, by unfold pNormal; omega, by simp only [List.length_singleton]; omega, hn _ hi2 ⟨rfl, ?_⟩⟩
      rw [hs]
      unfold pickOf
      rw [if_pos hc]
    · rw [hs]
      have : pickOf a0 (mVaryNames a1)[i] = none := by unfold pickOf; rw [if_neg hc]
      rw [this]; simp
  · have e : (mVaryNames a1).take i = mVaryNames a1 := List.take_of_length_le (by omega)
    rw [e]; rfl
theorem impl_Picked_ok (a0 : Req) (a1 : Rsp) (h : pPicked a0 a1) : s_impl_Picked a0 a1 (fun r => r = mPicked a0 a1) := by
  have hv := varyNames_len a1 h.2
  refine ⟨h.2, fun L hL => ?_⟩
  refine loopG hL (mVaryNames a1).length (fun i y => y.2 = (i : Int) ∧ y.1 = ((mVaryNames a1).take i).filterMap (pickOf a0)) (fun i y hi hI hn => ?_) (s0 := ([], 0)) ⟨rfl, rfl⟩
  obtain ⟨y1, y2⟩ := y
  simp only at hI ⊢
  obtain ⟨rfl, rfl⟩ := hI
  have hlen := List.length_filterMap_le (pickOf a0) ((mVaryNames a1).take i)
  rw [List.length_take] at hlen
  refine ⟨fun hlt => ?_, fun hge => ?_⟩
  · have hi2 : i < (mVaryNames a1).length := by omega
    have hs := filterMap_take (pickOf a0) (mVaryNames a1) hi2
    have hsz := fieldGet_size a0.2.2.1 (mVaryNames a1)[i] h.1
    rw [rx_get _ hi2, wrapS (by omega)]
    refine ⟨by omega, by omega, h.1, fun hc => ?_, fun hc => hn _ hi2 ⟨rfl, ?_⟩⟩
    · refine ⟨by unfold pNormal; omega, by simp only [List.length_singleton]; omega, hn _ hi2 ⟨rfl, ?_⟩⟩
      rw [hs]
      unfold pickOf
      rw [if_pos hc]
    · rw [hs]
      have : pickOf a0 (mVaryNames a1)[i] = none := by unfold pickOf; rw [if_neg hc]
      rw [this]; simp
  · have e : (mVaryNames a1).take i = mVaryNames a1 := List.take_of_length_le (by omega)
    rw [e]; rfl
theorem picked_len (q : Req) (r : Rsp) (h : pPicked q r) : (mPicked q r).length ≤ 3 * 1048576 + 1 := by
  have := List.length_filterMap_le (pickOf q) (mVaryNames r)
  have := varyNames_len r h.2
  unfold mPicked
  omega
theorem spec_VaryFits_ok (a0 : Req) (a1 : Rsp) (a2 : List Fld) (h : pVaryFits a0 a1 a2) : s_spec_VaryFits a0 a1 a2 (fun r => r = mVaryFits a0 a1 a2) := by
  have := picked_len a0 a1 h
  exact ⟨h, by unfold pSameFields; simp only [maxLen]; omega, rfl⟩
theorem impl_VaryFits_ok (a0 : Req) (a1 : Rsp) (a2 : List Fld) (h : pVaryFits a0 a1 a2) : s_impl_VaryFits a0 a1 a2 (fun r => r = mVaryFits a0 a1 a2) := spec_VaryFits_ok a0 a1 a2 h
end Go.Ev
end

section
/- Laws of the plain library: the laws' marks. -/
set_option linter.unusedVariables false
namespace Go.Ev
theorem laws_markText_ok (a0 : Int) (h : pMarkText a0) : s_laws_markText a0 (fun r => r = mMarkText a0) := by
  obtain ⟨ha, hb⟩ := h
  have hlen := Lib.itoa_length_le a0 ha hb
  refine ⟨fun h0 => by unfold mMarkText; rw [if_pos h0], fun h0 => fun L hL => ?_⟩
  refine loopI hL (fun y => in64 y.1 ∧ 0 ≤ y.1 ∧ decLeft y.1 ++ bs y.2 = Lib.decDigits a0.natAbs) (fun y => y.1.natAbs) (fun y hI ih => ?_) (a0, lit []) ⟨⟨ha, hb⟩, by simp only; omega, by unfold decLeft; rw [if_neg (by simp only; omega), bs_lit]; simp⟩
  obtain ⟨n, s⟩ := y
  obtain ⟨h64, hp, he⟩ := hI
  simp only at h64 hp he ⊢
  have hl : (Lib.decDigits a0.natAbs).length ≤ 21 := by
    unfold Lib.itoa at hlen
    rw [if_neg (by omega), show a0.toNat = a0.natAbs by omega] at hlen
    exact hlen
  have hs : s.size ≤ 21 := by rw [← bs_len]; rw [← he, List.length_append] at hl; omega
  have ht := td10 n
  have d64 : in64 (n.tdiv 10) := by obtain ⟨a, b⟩ := h64; constructor <;> omega
  have wd : IntKind.i64.wrap (n.tdiv 10) = n.tdiv 10 := wrap64 (by have := d64.1; omega) (by have := d64.2; omega)
  have h1 : (ob [UInt8.ofNat (48 + n.natAbs % 10)]).size = 1 := ob_size _
  have h2 : (lit [109]).size = 1 := rfl
  rw [wd]
  refine ⟨fun hne => ?_, fun hle => ?_⟩
  · rw [digit_pos h64 (by omega), h1]
    refine ⟨by decide, by omega, by decide, ih _ ⟨d64, by simp only; omega, ?_⟩ (by simp only; omega)⟩
    simp only
    rw [bs_append, bs_ob, ← List.append_assoc, ← decLeft_step (by omega), he]
  · have h00 : n = 0 := by omega
    subst h00
    rw [h2]
    refine ⟨by omega, ?_⟩
    unfold mMarkText mDec mItoa
    rw [if_neg h0]
    congr 1
    apply bs_inj
    rw [bs_ob]
    unfold Lib.itoa
    rw [if_neg (by omega), show a0.toNat = a0.natAbs by omega, ← he]
    unfold decLeft
    simp
/-- A row that is marked up to a place. -/
theorem mark_step {l xs : List Fld} {k : Int} {i : Nat} (hi : i < l.length) (hl : xs.length = l.length) (h1 : xs.take i = (markFld l k).take i) (h2 : ∀ f, f = (mMarkText (k + 2 * i), mMarkText (k + 2 * i + 1)) → ((xs.set i f).take (i + 1) = (markFld l k).take (i + 1))) : True := trivial
theorem take_set_succ {α : Type} {xs ys : List α} {i : Nat} {f : α} (hx : i < xs.length) (hy : i < ys.length) (h : xs.take i = ys.take i) (hf : ys[i] = f) : (xs.set i f).take (i + 1) = ys.take (i + 1) := by
  rw [List.take_add_one, List.take_add_one, List.getElem?_set_self hx, List.getElem?_eq_getElem hy, hf, ← h]
  congr 1
  apply List.ext_getElem?
  intro j
  rw [List.getElem?_take, List.getElem?_take]
  split
  · rw [List.getElem?_set_ne (by omega)]
  · rfl
theorem laws_markFieldS_ok (a0 : List Fld) (a1 : Int) (h : pMarkFieldS a0 a1) : s_laws_markFieldS a0 a1 (fun r y => r = mMarkFieldS a0 a1 ∧ y = wMarkFieldS a0 a1) := by
  obtain ⟨k0, k1, hn⟩ := h
  intro L hL
  refine loopI hL (fun y => ∃ i : Nat, i ≤ a0.length ∧ y.2.1 = (i : Int) ∧ y.1 = a1 + 2 * i ∧ y.2.2.length = a0.length ∧ y.2.2.take i = (markFld a0 a1).take i) (fun y => a0.length + 1 - y.2.1.toNat) (fun y hI ih => ?_) (a1, 0, a0) ⟨0, by omega, rfl, by simp, rfl, by simp⟩
  obtain ⟨k, i', xs⟩ := y
  obtain ⟨i, hi, hy, hk, hl, ht⟩ := hI
  simp only at hy hk hl ht ⊢
  subst hy hk
  have hm := markFld_length a0 a1
  have w1 : IntKind.i64.wrap (a1 + 2 * (i : Int) + 1) = a1 + 2 * i + 1 := wrap64 (by omega) (by omega)
  have w2 : IntKind.i64.wrap (a1 + 2 * (i : Int) + 1 + 1) = a1 + 2 * ((i + 1 : Nat) : Int) := by rw [wrap64 (by omega) (by omega)]; omega
  have w3 : IntKind.i64.wrap ((i : Int) + 1) = ((i + 1 : Nat) : Int) := wrapS (by omega)
  rw [w1, w2, w3]
  refine ⟨fun hlt => ?_, fun hge => ?_⟩
  · have hlt' : i < xs.length := by omega
    refine ⟨⟨by omega, by omega⟩, by omega, hlt, ⟨by omega, by omega⟩, by omega, by rw [List.length_set]; exact hlt, ?_⟩
    refine ih _ ⟨i + 1, by omega, rfl, rfl, by simp [hl], ?_⟩ (by simp only [Int.toNat_natCast]; omega)
    simp only [Int.toNat_natCast]
    have e1 : (rx (xs.set i (mMarkText (a1 + 2 * (i : Int)), (rx xs (i : Int)).2)) (i : Int)).1 = mMarkText (a1 + 2 * (i : Int)) := by
      rw [rx_get _ (by rw [List.length_set]; exact hlt'), List.getElem_set_self]
    rw [e1, List.set_set]
    exact take_set_succ hlt' (by omega) ht (markFld_get a0 a1 i (by omega))
  · have hie : i = a0.length := by omega
    subst hie
    refine ⟨rfl, ?_⟩
    unfold wMarkFieldS
    rw [List.take_of_length_le (by omega), List.take_of_length_le (by omega)] at ht
    rw [ht]
theorem laws_heldFieldS_ok (a0 : List Fld) (a1 : Int) (h : pHeldFieldS a0 a1) : s_laws_heldFieldS a0 a1 (fun r => r = mHeldFieldS a0 a1) := by
  obtain ⟨k0, k1, hn⟩ := h
  intro L hL
  refine loopI hL (fun y => ∃ i : Nat, i ≤ a0.length ∧ y.2 = (i : Int) ∧ y.1 = a1 + 2 * i ∧ heldFld (a0.drop i) y.1 = heldFld a0 a1) (fun y => a0.length + 1 - y.2.toNat) (fun y hI ih => ?_) (a1, 0) ⟨0, by omega, rfl, by simp, by simp⟩
  obtain ⟨k, i'⟩ := y
  obtain ⟨i, hi, hy, hk, he⟩ := hI
  simp only at hy hk he ⊢
  subst hy hk
  have w1 : IntKind.i64.wrap (a1 + 2 * (i : Int) + 1) = a1 + 2 * i + 1 := wrap64 (by omega) (by omega)
  have w2 : IntKind.i64.wrap (a1 + 2 * (i : Int) + 1 + 1) = a1 + 2 * ((i + 1 : Nat) : Int) := by rw [wrap64 (by omega) (by omega)]; omega
  have w3 : IntKind.i64.wrap ((i : Int) + 1) = ((i + 1 : Nat) : Int) := wrapS (by omega)
  rw [w1, w2, w3]
  refine ⟨fun hlt => ?_, fun hge => ?_⟩
  · have hlt' : i < a0.length := by omega
    rw [List.drop_eq_getElem_cons hlt'] at he
    rw [rx_get _ hlt']
    rw [heldFld] at he
    refine ⟨by omega, hlt, ⟨by omega, by omega⟩, fun hne => ?_, fun hne => ⟨by omega, hlt, ⟨by omega, by omega⟩, fun hne2 => ?_, fun hne2 => ?_⟩⟩
    · rw [if_pos hne] at he; exact he
    · rw [if_neg hne, if_pos hne2] at he; exact he
    · rw [if_neg hne, if_neg hne2] at he
      refine ih _ ⟨i + 1, by omega, rfl, rfl, ?_⟩ (by simp only [Int.toNat_natCast]; omega)
      simp only
      rw [← he]
      congr 1
      omega
  · have hie : i = a0.length := by omega
    subst hie
    rw [List.drop_of_length_le (Nat.le_refl _)] at he
    exact he
theorem laws_markRequest_ok (a0 : Req) (a1 : Int) (h : pMarkRequest a0 a1) : s_laws_markRequest a0 a1 (fun r y => r = mMarkRequest a0 a1 ∧ y = wMarkRequest a0 a1) := ⟨h, rfl, rfl⟩
theorem laws_markResponse_ok (a0 : Rsp) (a1 : Int) (h : pMarkResponse a0 a1) : s_laws_markResponse a0 a1 (fun r y => r = mMarkResponse a0 a1 ∧ y = wMarkResponse a0 a1) := ⟨h, rfl, rfl⟩

/-! ### Picked -/
theorem onceL_mem : ∀ (out l : List S) (x : S), x ∈ onceL out l → x ∈ out ∨ x ∈ l
  | out, [], x, h => .inl h
  | out, y :: l, x, h => by
    simp only [onceL] at h
    split at h
    · exact (onceL_mem _ l x h).imp (fun h => h) fun h => List.mem_cons_of_mem _ h
    · rcases onceL_mem _ l x h with h | h
      · rcases List.mem_append.1 h with h | h
        · exact .inl h
        · have : x = y := by simpa using h
          subst this
          exact .inr List.mem_cons_self
      · exact .inr (List.mem_cons_of_mem _ h)
theorem mLower_size (s : S) : (mLower s).size = s.size := by
  unfold mLower
  rw [ob_size, List.length_map, bs_len]
theorem varyName_size {r : Rsp} (h : md r.2.1) {n : S} (hn : n ∈ mVaryNames r) : n.size ≤ 3 * 1048576 := by
  rcases onceL_mem _ _ _ hn with h1 | h1
  · cases h1
  · obtain ⟨p, hp, rfl⟩ := List.mem_map.1 h1
    rw [mLower_size]
    exact Nat.le_trans (splitList_mem hp) (fieldGet_size _ _ h)
theorem normal_size (s : S) : (mNormal s).size ≤ 3 * s.size + 2 := by
  unfold mNormal mJoin
  have h1 := joinL_size (lit [44, 32]) (mSplitList s)
  have h2 := splitList_bound s
  rw [sep_size] at h1
  omega
theorem picked_wd {q : Req} {r : Rsp} (h : pPicked q r) : wd (mPicked q r) ∧ (mPicked q r).length ≤ 1099511627776 := by
  have hl := picked_len q r h
  refine ⟨⟨by simp only [maxLen]; omega, fun i x hx => ?_⟩, by omega⟩
  obtain ⟨n, hn, hp⟩ := List.mem_filterMap.1 (List.mem_of_getElem? hx)
  have h1 := varyName_size h.2 hn
  unfold pickOf at hp
  split at hp
  · injection hp with hp
    subst hp
    have h2 := fieldGet_size q.2.2.1 n h.1
    have h3 := normal_size (mFieldGet q.2.2.1 n).1
    exact ⟨show n.size ≤ maxLen by simp only [maxLen]; omega, show (mNormal _).size ≤ maxLen by simp only [maxLen]; omega⟩
  · cases hp
def p_FnExactPicked (a0 : Req) (a1 : Rsp) : Prop := wd a0 ∧ wd a1
theorem laws_FnExactPicked_ok (a0 : Req) (a1 : Rsp) (h : p_FnExactPicked a0 a1) : s_laws_FnExactPicked a0 a1 (fun r => r = true) := by
  obtain ⟨w0, w1⟩ := h
  refine ⟨⟨w0, by omega, by simp [capI]⟩, fun _ => rfl, fun hs0 => ⟨pSz_next hs0 (by omega) (by omega) w1, fun _ => rfl, fun hs1 => ?_⟩⟩
  have k0 := szF_le a0 (k := 1048576) (by omega)
  have m0 : md a0 := szF_md hs0 (by omega) (by omega)
  have m1 : md a1 := szF_md hs1 (by omega) (by omega)
  have hp : pPicked (toF a0) (toF a1) := ⟨md_req m0, md_rsp m1⟩
  obtain ⟨pw, pl⟩ := picked_wd hp
  have q0 := md_len' (md_req m0)
  have q1 := md_len' (md_rsp m1)
  have hk1 : pMarkRequest (toF a0) 1 := ⟨by omega, by omega, by show a0.2.2.1.length ≤ _; omega⟩
  have hk2 : pMarkResponse (toF a1) (mMarkRequest (toF a0) 1) := ⟨by show 0 ≤ 1 + 2 * (a0.2.2.1.length : Int); omega, by show 1 + 2 * (a0.2.2.1.length : Int) ≤ _; omega, by show a1.2.1.length ≤ _; omega⟩
  have hg : ¬ mMarkResponse (toF a1) (mMarkRequest (toF a0) 1) < 0 := by show ¬ (1 + 2 * (a0.2.2.1.length : Int) + 2 * (a1.2.1.length : Int) < 0); omega
  have hm : pMarkFieldS (mPicked (toF a0) (toF a1)) 1 := ⟨by omega, by omega, pl⟩
  have hh : pHeldFieldS (wMarkFieldS (mPicked (toF a0) (toF a1)) 1).1 1 := ⟨by omega, by omega, by show (markFld _ _).length ≤ _; rw [markFld_length]; exact pl⟩
  have he : mHeldFieldS (wMarkFieldS (mPicked (toF a0) (toF a1)) 1).1 1 = mMarkFieldS (mPicked (toF a0) (toF a1)) 1 := held_mark _ _
  have hge : ¬ mHeldFieldS (wMarkFieldS (mPicked (toF a0) (toF a1)) 1).1 1 < 0 := by rw [he]; unfold mMarkFieldS; omega
  have eqs : ∀ {α : Type} [DecidableEq α] (x : α), ¬ (eqF x x = true) → False := fun x hne => hne (eqF_iff.2 rfl)
  exact ⟨m0, m1, hp, m0, m1, hp, pw, fun hne => (eqs _ hne).elim, fun _ => ⟨m0, w0, fun hne => (eqs _ hne).elim, fun _ => ⟨m1, w1, fun hne => (eqs _ hne).elim, fun _ => ⟨hk1, hk2, fun hl => absurd hl hg, fun _ =>
    ⟨pw, fun hne => (eqs _ hne).elim, fun _ => ⟨hm, hh, fun hl => absurd hl hge, fun _ => ⟨fun hne => absurd he hne, fun _ => ⟨m0, m1, hp, pw, fun hne => (eqs _ hne).elim, fun _ => ⟨hh, fun hl => absurd hl hge, fun _ => ⟨fun hne => absurd he hne, fun _ => rfl⟩⟩⟩⟩⟩⟩⟩⟩⟩⟩
end Go.Ev
end
