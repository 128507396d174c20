/- A small verified machine for the operations of the given program, and plain laws of what its functions compute; without conditions of its own. Part 4. -/
import Derived.Test.YtiefookbpgdmoaaC2
import Derived.DataReads
import Derived.Lib.Join
import Derived.Lib.SlTrimSet
import Derived.Laws.IdiomStrings
import Derived.Lib.AtoiAllMem
import Derived.Lib.AtoiAllCases
import Derived.Lib.Split
import Derived.Sort.Walk0
import Derived.Test.YtiefookbpgdmoaaProg
set_option linter.unusedVariables false
set_option linter.unusedSimpArgs false
section
/- Laws of the plain library: the laws' marks. -/
set_option linter.unusedVariables false
namespace Go.Ev
theorem laws_markText_ok (a0 : Int) (h : pMarkText a0) : s_laws_markText a0 (fun r => r = mMarkText a0) := by
  obtain ⟨ha, hb⟩ := h
  have hlen := Lib.itoa_length_le a0 ha hb
  refine ⟨fun h0 => by unfold mMarkText; rw [if_pos h0], fun h0 => fun L hL => ?_⟩
  refine loopI hL (fun y => in64 y.1 ∧ 0 ≤ y.1 ∧ decLeft y.1 ++ bs y.2 = Lib.decDigits a0.natAbs) (fun y => y.1.natAbs) (fun y hI ih => ?_) (a0, lit []) ⟨⟨ha, hb⟩, by simp only; omega, by unfold decLeft; rw [if_neg (by simp only; omega), bs_lit]; simp⟩
  obtain ⟨n, s⟩ := y
  obtain ⟨h64, hp, he⟩ := hI
  simp only at h64 hp he ⊢
  have hl : (Lib.decDigits a0.natAbs).length ≤ 21 := by
    unfold Lib.itoa at hlen
    rw [if_neg (by omega), show a0.toNat = a0.natAbs by omega] at hlen
    exact hlen
  have hs : s.size ≤ 21 := by rw [← bs_len]; rw [← he, List.length_append] at hl; omega
  have ht := td10 n
  have d64 : in64 (n.tdiv 10) := by obtain ⟨a, b⟩ := h64; constructor <;> omega
  have wd : IntKind.i64.wrap (n.tdiv 10) = n.tdiv 10 := wrap64 (by have := d64.1; omega) (by have := d64.2; omega)
  have h1 : (ob [UInt8.ofNat (48 + n.natAbs % 10)]).size = 1 := ob_size _
  have h2 : (lit [109]).size = 1 := rfl
  rw [wd]
  refine ⟨fun hne => ?_, fun hle => ?_⟩
  · rw [digit_pos h64 (by omega), h1]
    refine ⟨by decide, by omega, by decide, ih _ ⟨d64, by simp only; omega, ?_⟩ (by simp only; omega)⟩
    simp only
    rw [bs_append, bs_ob, ← List.append_assoc, ← decLeft_step (by omega), he]
  · have h00 : n = 0 := by omega
    subst h00
    rw [h2]
    refine ⟨by omega, ?_⟩
    unfold mMarkText mDec mItoa
    rw [if_neg h0]
    congr 1
    apply bs_inj
    rw [bs_ob]
    unfold Lib.itoa
    rw [if_neg (by omega), show a0.toNat = a0.natAbs by omega, ← he]
    unfold decLeft
    simp
theorem take_set_succ {α : Type} {xs ys : List α} {i : Nat} {f : α} (hx : i < xs.length) (hy : i < ys.length) (h : xs.take i = ys.take i) (hf : ys[i] = f) : (xs.set i f).take (i + 1) = ys.take (i + 1) := by
  rw [List.take_add_one, List.take_add_one, List.getElem?_set_self hx, List.getElem?_eq_getElem hy, hf, ← h]
  congr 1
  apply List.ext_getElem?
  intro j
  rw [List.getElem?_take, List.getElem?_take]
  split
  · rw [List.getElem?_set_ne (by omega)]
  · rfl
theorem laws_markFieldS_ok (a0 : List Fld) (a1 : Int) (h : pMarkFieldS a0 a1) : s_laws_markFieldS a0 a1 (fun r y => r = mMarkFieldS a0 a1 ∧ y = wMarkFieldS a0 a1) := by
  obtain ⟨k0, k1, hn⟩ := h
  intro L hL
  refine loopI hL (fun y => ∃ i : Nat, i ≤ a0.length ∧ y.2.1 = (i : Int) ∧ y.1 = a1 + 2 * i ∧ y.2.2.length = a0.length ∧ y.2.2.take i = (markFld a0 a1).take i) (fun y => a0.length + 1 - y.2.1.toNat) (fun y hI ih => ?_) (a1, 0, a0) ⟨0, by omega, rfl, by simp, rfl, by simp⟩
  obtain ⟨k, i', xs⟩ := y
  obtain ⟨i, hi, hy, hk, hl, ht⟩ := hI
  simp only at hy hk hl ht ⊢
  subst hy hk
  have hm := markFld_length a0 a1
  have w1 : IntKind.i64.wrap (a1 + 2 * (i : Int) + 1) = a1 + 2 * i + 1 := wrap64 (by omega) (by omega)
  have w2 : IntKind.i64.wrap (a1 + 2 * (i : Int) + 1 + 1) = a1 + 2 * ((i + 1 : Nat) : Int) := by rw [wrap64 (by omega) (by omega)]; omega
  have w3 : IntKind.i64.wrap ((i : Int) + 1) = ((i + 1 : Nat) : Int) := wrapS (by omega)
  rw [w1, w2, w3]
  refine ⟨fun hlt => ?_, fun hge => ?_⟩
  · have hlt' : i < xs.length := by omega
    refine ⟨⟨by omega, by omega⟩, by omega, hlt, ⟨by omega, by omega⟩, by omega, by rw [List.length_set]; exact hlt, ?_⟩
    refine ih _ ⟨i + 1, by omega, rfl, rfl, by simp [hl], ?_⟩ (by simp only [Int.toNat_natCast]; omega)
    simp only [Int.toNat_natCast]
    have e1 : (rx (xs.set i (mMarkText (a1 + 2 * (i : Int)), (rx xs (i : Int)).2)) (i : Int)).1 = mMarkText (a1 + 2 * (i : Int)) := by
      rw [rx_get _ (by rw [List.length_set]; exact hlt'), List.getElem_set_self]
    rw [e1, List.set_set]
    exact take_set_succ hlt' (by omega) ht (markFld_get a0 a1 i (by omega))
  · have hie : i = a0.length := by omega
    subst hie
    refine ⟨rfl, ?_⟩
    unfold wMarkFieldS
    rw [List.take_of_length_le (by omega), List.take_of_length_le (by omega)] at ht
    rw [ht]
theorem laws_heldFieldS_ok (a0 : List Fld) (a1 : Int) (h : pHeldFieldS a0 a1) : s_laws_heldFieldS a0 a1 (fun r => r = mHeldFieldS a0 a1) := by
  obtain ⟨k0, k1, hn⟩ := h
  intro L hL
  refine loopI hL (fun y => ∃ i : Nat, i ≤ a0.length ∧ y.2 = (i : Int) ∧ y.1 = a1 + 2 * i ∧ heldFld (a0.drop i) y.1 = heldFld a0 a1) (fun y => a0.length + 1 - y.2.toNat) (fun y hI ih => ?_) (a1, 0) ⟨0, by omega, rfl, by simp, by simp⟩
  obtain ⟨k, i'⟩ := y
  obtain ⟨i, hi, hy, hk, he⟩ := hI
  simp only at hy hk he ⊢
  subst hy hk
  have w1 : IntKind.i64.wrap (a1 + 2 * (i : Int) + 1) = a1 + 2 * i + 1 := wrap64 (by omega) (by omega)
  have w2 : IntKind.i64.wrap (a1 + 2 * (i : Int) + 1 + 1) = a1 + 2 * ((i + 1 : Nat) : Int) := by rw [wrap64 (by omega) (by omega)]; omega
  have w3 : IntKind.i64.wrap ((i : Int) + 1) = ((i + 1 : Nat) : Int) := wrapS (by omega)
  rw [w1, w2, w3]
  refine ⟨fun hlt => ?_, fun hge => ?_⟩
  · have hlt' : i < a0.length := by omega
    rw [List.drop_eq_getElem_cons hlt'] at he
    rw [rx_get _ hlt']
    rw [heldFld] at he
    refine ⟨by omega, hlt, ⟨by omega, by omega⟩, fun hne => ?_, fun hne => ⟨by omega, hlt, ⟨by omega, by omega⟩, fun hne2 => ?_, fun hne2 => ?_⟩⟩
    · rw [if_pos hne] at he; exact he
    · rw [if_neg hne, if_pos hne2] at he; exact he
    · rw [if_neg hne, if_neg hne2] at he
      refine ih _ ⟨i + 1, by omega, rfl, rfl, ?_⟩ (by simp only [Int.toNat_natCast]; omega)
      simp only
      rw [← he]
      congr 1
      omega
  · have hie : i = a0.length := by omega
    subst hie
    rw [List.drop_of_length_le (Nat.le_refl _)] at he
    exact he
theorem laws_markRequest_ok (a0 : Req) (a1 : Int) (h : pMarkRequest a0 a1) : s_laws_markRequest a0 a1 (fun r y => r = mMarkRequest a0 a1 ∧ y = wMarkRequest a0 a1) := ⟨h, rfl, rfl⟩
theorem laws_markResponse_ok (a0 : Rsp) (a1 : Int) (h : pMarkResponse a0 a1) : s_laws_markResponse a0 a1 (fun r y => r = mMarkResponse a0 a1 ∧ y = wMarkResponse a0 a1) := ⟨h, rfl, rfl⟩

end Go.Ev
end

section
/- Library functions: strings.Join, strings.Trim, strings.Cut, strings.IndexByte: contracts of the small machine. -/
set_option linter.unusedVariables false
namespace Go.Ev
open Go.RowKit
end Go.Ev
end

section
/- Library functions: strconv.Atoi, strings.TrimLeft, strings.Split: contracts of the small machine; what their variables hold. -/
set_option linter.unusedVariables false
namespace Go.Ev
open Go.RowKit
end Go.Ev
end

section
/- The plain library: what the functions of dates compute. -/
set_option linter.unusedVariables false
namespace Go.Ev
end Go.Ev
end

section
/- What the functions of dates come to: printed by a program of this session's own (EwShow) out of the small machine. -/
set_option linter.unusedVariables false
namespace Go.Ev

end Go.Ev
end

section
/- Laws of the plain library: the calendar. -/
set_option linter.unusedVariables false
namespace Go.Ev
end Go.Ev
end

section
/- Laws of the plain library: days, texts of dates. -/
set_option linter.unusedVariables false
namespace Go.Ev
end Go.Ev
end

section
/- Laws of the plain library: texts of moments. -/
set_option linter.unusedVariables false
namespace Go.Ev
end Go.Ev
end

section
/- Laws of the plain library: marks of texts in a row, FieldSet, WithAge, VaryNames. -/
set_option linter.unusedVariables false
namespace Go.Ev
theorem laws_heldResponse_ok (a0 : Rsp) (a1 : Int) (h : pHeldResponse a0 a1) : s_laws_heldResponse a0 a1 (fun r => r = mHeldResponse a0 a1) := by
  refine ⟨h, fun h1 => ?_, fun h1 => ?_⟩
  · unfold mHeldResponse; rw [if_pos h1]
  · unfold mHeldResponse; rw [if_neg h1]
end Go.Ev
end

section
/- What functions of caches come to: printed by a program of this session's own (EwShow) out of the small machine. -/
set_option linter.unusedVariables false
namespace Go.Ev

end Go.Ev
end

section
/- Laws of the plain library: the origin. -/
set_option linter.unusedVariables false
namespace Go.Ev
end Go.Ev
end

section
/- Laws of the plain library: shards. -/
set_option linter.unusedVariables false
namespace Go.Ev
end Go.Ev
end

section
/- Laws of the plain library: caches; what is found in a shard. -/
set_option linter.unusedVariables false
namespace Go.Ev
end Go.Ev
end

section
/- Laws of the plain library: marks of what has slices in its slices; copies; ShardTouch. -/
set_option linter.unusedVariables false
set_option linter.unusedSimpArgs false
namespace Go.Ev
end Go.Ev
end

section
/- Laws of the plain library: ConnNew: marks of a connection that holds no rows. -/
set_option linter.unusedVariables false
namespace Go.Ev
theorem laws_markStored_ok (a0 : Sto) (a1 : Int) (h : pMarkStored a0 a1) : s_laws_markStored a0 a1 (fun r y => r = mMarkStored a0 a1 ∧ y = wMarkStored a0 a1) := by
  obtain ⟨h1, h2⟩ := h
  exact ⟨⟨by omega, by omega, by omega⟩, ⟨by show 0 ≤ a1 + 2 * (a0.2.1.length : Int); omega, by show a1 + 2 * (a0.2.1.length : Int) ≤ _; omega, by show a0.2.2.2.1.length ≤ _; omega⟩, rfl, rfl⟩
theorem laws_heldStored_ok (a0 : Sto) (a1 : Int) (h : pHeldStored a0 a1) : s_laws_heldStored a0 a1 (fun r => r = mHeldStored a0 a1) := by
  obtain ⟨⟨h1, h2⟩, h3⟩ := h
  have e1 : mHeldFieldS a0.2.1 a1 = a1 + 2 * (a0.2.1.length : Int) := by
    have := held_mark a0.2.1 a1
    rw [h3] at this
    exact this
  unfold s_laws_heldStored
  rw [e1]
  refine ⟨⟨by omega, by omega, by omega⟩, fun hn => by omega, fun _ => ⟨⟨by omega, by omega, by show a0.2.2.2.1.length ≤ _; omega⟩, fun hn => ?_, fun hn => ?_⟩⟩
  · unfold mHeldStored
    rw [e1, if_neg (by omega)]
    unfold mHeldResponse at hn ⊢
    split
    · rfl
    · next hc => rw [if_neg hc] at hn; exact absurd hn hc
  · unfold mHeldStored
    rw [e1, if_neg (by omega)]
def mMarkToldS (l : List Tld) (k : Int) : Int := k
def wMarkToldS (l : List Tld) (k : Int) : List Tld × Int := (l, k)
def pMarkToldS (l : List Tld) (k : Int) : Prop := l = []
def mHeldToldS (l : List Tld) (k : Int) : Int := k
def pHeldToldS (l : List Tld) (k : Int) : Prop := l = []
def mHeldRequest (q : Req) (k : Int) : Int := if mHeldFieldS q.2.2.1 k < 0 then -1 else mHeldFieldS q.2.2.1 k
def pHeldRequest (q : Req) (k : Int) : Prop := pHeldFieldS q.2.2.1 k

def s_laws_markToldS (a0 : (List Tld)) (a1 : Int) (Q : (Int → (((List Tld) × Int) → Prop))) : Prop :=
  (∀ L0 : ((Int × (Int × (List Tld))) → Prop),
    ((
        (∀ y1 : (Int × (Int × (List Tld))),
          ((
              (y1.2.1 < (y1.2.2.length : Int) →
                0 ≤ y1.2.1 ∧
                y1.2.1 < (y1.2.2.length : Int) ∧
                (∀ y2 : (List Tld),
                  (y2 = (y1.2.2.set y1.2.1.toNat (y1.1, (rx y1.2.2 y1.2.1).2)) →
                    0 ≤ y1.2.1 ∧
                    y1.2.1 < (y2.length : Int) ∧
                    (∀ y3 : (List Tld),
                      (y3 = (y2.set y1.2.1.toNat ((rx y2 y1.2.1).1, (IntKind.i64.wrap (y1.1 + 1)), (rx y2 y1.2.1).2.2)) →
                        0 ≤ y1.2.1 ∧
                        y1.2.1 < (y3.length : Int) ∧
                        (∀ y4 : (List Tld),
                          (y4 = (y3.set y1.2.1.toNat ((rx y3 y1.2.1).1, (rx y3 y1.2.1).2.1, [], (rx y3 y1.2.1).2.2.2)) →
                            pMarkFieldS (rx y3 y1.2.1).2.2.1 (IntKind.i64.wrap ((IntKind.i64.wrap (y1.1 + 1)) + 1)) ∧
                            (∀ y5 : (List Tld),
                              (y5 = (y4.set y1.2.1.toNat ((rx y4 y1.2.1).1, (rx y4 y1.2.1).2.1, (wMarkFieldS (rx y3 y1.2.1).2.2.1 (IntKind.i64.wrap ((IntKind.i64.wrap (y1.1 + 1)) + 1))).1, (rx y4 y1.2.1).2.2.2)) →
                                pMarkText (mMarkFieldS (rx y3 y1.2.1).2.2.1 (IntKind.i64.wrap ((IntKind.i64.wrap (y1.1 + 1)) + 1))) ∧
                                0 ≤ y1.2.1 ∧
                                y1.2.1 < (y5.length : Int) ∧
                                (∀ y6 : (List Tld),
                                  (y6 = (y5.set y1.2.1.toNat ((rx y5 y1.2.1).1, (rx y5 y1.2.1).2.1, (rx y5 y1.2.1).2.2.1, (mMarkText (mMarkFieldS (rx y3 y1.2.1).2.2.1 (IntKind.i64.wrap ((IntKind.i64.wrap (y1.1 + 1)) + 1)))))) →
                                    (L0 ((IntKind.i64.wrap ((mMarkFieldS (rx y3 y1.2.1).2.2.1 (IntKind.i64.wrap ((IntKind.i64.wrap (y1.1 + 1)) + 1))) + 1)), (IntKind.i64.wrap (y1.2.1 + 1)), y6))))))))))))) ∧
              (¬ (y1.2.1 < (y1.2.2.length : Int)) →
                (Q y1.1 (y1.2.2, a1)))
            ) →
            (L0 y1)))
      ) →
      (L0 (a1, 0, a0))))

def s_laws_heldToldS (a0 : (List Tld)) (a1 : Int) (Q : (Int → Prop)) : Prop :=
  (∀ L0 : ((Int × Int) → Prop),
    ((
        (∀ y1 : (Int × Int),
          ((
              (y1.2 < (a0.length : Int) →
                0 ≤ y1.2 ∧
                y1.2 < (a0.length : Int) ∧
                ((rx a0 y1.2).1 ≠ y1.1 →
                  (Q (-1))) ∧
                (¬ ((rx a0 y1.2).1 ≠ y1.1) →
                  0 ≤ y1.2 ∧
                  y1.2 < (a0.length : Int) ∧
                  ((rx a0 y1.2).2.1 ≠ (IntKind.i64.wrap (y1.1 + 1)) →
                    (Q (-1))) ∧
                  (¬ ((rx a0 y1.2).2.1 ≠ (IntKind.i64.wrap (y1.1 + 1))) →
                    0 ≤ y1.2 ∧
                    y1.2 < (a0.length : Int) ∧
                    pHeldFieldS (rx a0 y1.2).2.2.1 (IntKind.i64.wrap ((IntKind.i64.wrap (y1.1 + 1)) + 1)) ∧
                    ((mHeldFieldS (rx a0 y1.2).2.2.1 (IntKind.i64.wrap ((IntKind.i64.wrap (y1.1 + 1)) + 1))) < 0 →
                      (Q (-1))) ∧
                    (¬ ((mHeldFieldS (rx a0 y1.2).2.2.1 (IntKind.i64.wrap ((IntKind.i64.wrap (y1.1 + 1)) + 1))) < 0) →
                      0 ≤ y1.2 ∧
                      y1.2 < (a0.length : Int) ∧
                      pMarkText (mHeldFieldS (rx a0 y1.2).2.2.1 (IntKind.i64.wrap ((IntKind.i64.wrap (y1.1 + 1)) + 1))) ∧
                      ((rx a0 y1.2).2.2.2 ≠ (mMarkText (mHeldFieldS (rx a0 y1.2).2.2.1 (IntKind.i64.wrap ((IntKind.i64.wrap (y1.1 + 1)) + 1)))) →
                        (Q (-1))) ∧
                      (¬ ((rx a0 y1.2).2.2.2 ≠ (mMarkText (mHeldFieldS (rx a0 y1.2).2.2.1 (IntKind.i64.wrap ((IntKind.i64.wrap (y1.1 + 1)) + 1))))) →
                        (L0 ((IntKind.i64.wrap ((mHeldFieldS (rx a0 y1.2).2.2.1 (IntKind.i64.wrap ((IntKind.i64.wrap (y1.1 + 1)) + 1))) + 1)), (IntKind.i64.wrap (y1.2 + 1))))))))) ∧
              (¬ (y1.2 < (a0.length : Int)) →
                (Q y1.1))
            ) →
            (L0 y1)))
      ) →
      (L0 (a1, 0))))

def s_laws_heldRequest (a0 : Req) (a1 : Int) (Q : (Int → Prop)) : Prop :=
  pHeldFieldS a0.2.2.1 a1 ∧
  ((mHeldFieldS a0.2.2.1 a1) < 0 →
    (Q (-1))) ∧
  (¬ ((mHeldFieldS a0.2.2.1 a1) < 0) →
    (Q (mHeldFieldS a0.2.2.1 a1)))

def s_laws_markConn (a0 : Cnn) (a1 : Int) (Q : (Int → ((Cnn × Int) → Prop))) : Prop :=
  pMarkRequest (a0.2.2.2.1, a0.2.2.2.2.1, a0.2.2.2.2.2.1, a0.2.2.2.2.2.2.1) a1 ∧
  pMarkRequest (a0.2.2.2.2.2.2.2.1, a0.2.2.2.2.2.2.2.2.1, a0.2.2.2.2.2.2.2.2.2.1, a0.2.2.2.2.2.2.2.2.2.2.1) (mMarkRequest (a0.2.2.2.1, a0.2.2.2.2.1, a0.2.2.2.2.2.1, a0.2.2.2.2.2.2.1) a1) ∧
  pMarkStored (a0.2.2.2.2.2.2.2.2.2.2.2.1, a0.2.2.2.2.2.2.2.2.2.2.2.2.1, a0.2.2.2.2.2.2.2.2.2.2.2.2.2.1, a0.2.2.2.2.2.2.2.2.2.2.2.2.2.2.1, a0.2.2.2.2.2.2.2.2.2.2.2.2.2.2.2.1, a0.2.2.2.2.2.2.2.2.2.2.2.2.2.2.2.2.1, a0.2.2.2.2.2.2.2.2.2.2.2.2.2.2.2.2.2.1) (mMarkRequest (a0.2.2.2.2.2.2.2.1, a0.2.2.2.2.2.2.2.2.1, a0.2.2.2.2.2.2.2.2.2.1, a0.2.2.2.2.2.2.2.2.2.2.1) (mMarkRequest (a0.2.2.2.1, a0.2.2.2.2.1, a0.2.2.2.2.2.1, a0.2.2.2.2.2.2.1) a1)) ∧
  pMarkResponse (a0.2.2.2.2.2.2.2.2.2.2.2.2.2.2.2.2.2.2.2.2.2.2.2.2.1, a0.2.2.2.2.2.2.2.2.2.2.2.2.2.2.2.2.2.2.2.2.2.2.2.2.2.1, a0.2.2.2.2.2.2.2.2.2.2.2.2.2.2.2.2.2.2.2.2.2.2.2.2.2.2.1) (mMarkStored (a0.2.2.2.2.2.2.2.2.2.2.2.1, a0.2.2.2.2.2.2.2.2.2.2.2.2.1, a0.2.2.2.2.2.2.2.2.2.2.2.2.2.1, a0.2.2.2.2.2.2.2.2.2.2.2.2.2.2.1, a0.2.2.2.2.2.2.2.2.2.2.2.2.2.2.2.1, a0.2.2.2.2.2.2.2.2.2.2.2.2.2.2.2.2.1, a0.2.2.2.2.2.2.2.2.2.2.2.2.2.2.2.2.2.1) (mMarkRequest (a0.2.2.2.2.2.2.2.1, a0.2.2.2.2.2.2.2.2.1, a0.2.2.2.2.2.2.2.2.2.1, a0.2.2.2.2.2.2.2.2.2.2.1) (mMarkRequest (a0.2.2.2.1, a0.2.2.2.2.1, a0.2.2.2.2.2.1, a0.2.2.2.2.2.2.1) a1))) ∧
  pMarkToldS a0.2.2.2.2.2.2.2.2.2.2.2.2.2.2.2.2.2.2.2.2.2.2.2.2.2.2.2 (mMarkResponse (a0.2.2.2.2.2.2.2.2.2.2.2.2.2.2.2.2.2.2.2.2.2.2.2.2.1, a0.2.2.2.2.2.2.2.2.2.2.2.2.2.2.2.2.2.2.2.2.2.2.2.2.2.1, a0.2.2.2.2.2.2.2.2.2.2.2.2.2.2.2.2.2.2.2.2.2.2.2.2.2.2.1) (mMarkStored (a0.2.2.2.2.2.2.2.2.2.2.2.1, a0.2.2.2.2.2.2.2.2.2.2.2.2.1, a0.2.2.2.2.2.2.2.2.2.2.2.2.2.1, a0.2.2.2.2.2.2.2.2.2.2.2.2.2.2.1, a0.2.2.2.2.2.2.2.2.2.2.2.2.2.2.2.1, a0.2.2.2.2.2.2.2.2.2.2.2.2.2.2.2.2.1, a0.2.2.2.2.2.2.2.2.2.2.2.2.2.2.2.2.2.1) (mMarkRequest (a0.2.2.2.2.2.2.2.1, a0.2.2.2.2.2.2.2.2.1, a0.2.2.2.2.2.2.2.2.2.1, a0.2.2.2.2.2.2.2.2.2.2.1) (mMarkRequest (a0.2.2.2.1, a0.2.2.2.2.1, a0.2.2.2.2.2.1, a0.2.2.2.2.2.2.1) a1)))) ∧
  (Q (mMarkToldS a0.2.2.2.2.2.2.2.2.2.2.2.2.2.2.2.2.2.2.2.2.2.2.2.2.2.2.2 (mMarkResponse (a0.2.2.2.2.2.2.2.2.2.2.2.2.2.2.2.2.2.2.2.2.2.2.2.2.1, a0.2.2.2.2.2.2.2.2.2.2.2.2.2.2.2.2.2.2.2.2.2.2.2.2.2.1, a0.2.2.2.2.2.2.2.2.2.2.2.2.2.2.2.2.2.2.2.2.2.2.2.2.2.2.1) (mMarkStored (a0.2.2.2.2.2.2.2.2.2.2.2.1, a0.2.2.2.2.2.2.2.2.2.2.2.2.1, a0.2.2.2.2.2.2.2.2.2.2.2.2.2.1, a0.2.2.2.2.2.2.2.2.2.2.2.2.2.2.1, a0.2.2.2.2.2.2.2.2.2.2.2.2.2.2.2.1, a0.2.2.2.2.2.2.2.2.2.2.2.2.2.2.2.2.1, a0.2.2.2.2.2.2.2.2.2.2.2.2.2.2.2.2.2.1) (mMarkRequest (a0.2.2.2.2.2.2.2.1, a0.2.2.2.2.2.2.2.2.1, a0.2.2.2.2.2.2.2.2.2.1, a0.2.2.2.2.2.2.2.2.2.2.1) (mMarkRequest (a0.2.2.2.1, a0.2.2.2.2.1, a0.2.2.2.2.2.1, a0.2.2.2.2.2.2.1) a1))))) ((a0.1, a0.2.1, a0.2.2.1, a0.2.2.2.1, a0.2.2.2.2.1, (wMarkRequest (a0.2.2.2.1, a0.2.2.2.2.1, a0.2.2.2.2.2.1, a0.2.2.2.2.2.2.1) a1).1.2.2.1, a0.2.2.2.2.2.2.1, a0.2.2.2.2.2.2.2.1, a0.2.2.2.2.2.2.2.2.1, (wMarkRequest (a0.2.2.2.2.2.2.2.1, a0.2.2.2.2.2.2.2.2.1, a0.2.2.2.2.2.2.2.2.2.1, a0.2.2.2.2.2.2.2.2.2.2.1) (mMarkRequest (a0.2.2.2.1, a0.2.2.2.2.1, a0.2.2.2.2.2.1, a0.2.2.2.2.2.2.1) a1)).1.2.2.1, a0.2.2.2.2.2.2.2.2.2.2.1, a0.2.2.2.2.2.2.2.2.2.2.2.1, (wMarkStored (a0.2.2.2.2.2.2.2.2.2.2.2.1, a0.2.2.2.2.2.2.2.2.2.2.2.2.1, a0.2.2.2.2.2.2.2.2.2.2.2.2.2.1, a0.2.2.2.2.2.2.2.2.2.2.2.2.2.2.1, a0.2.2.2.2.2.2.2.2.2.2.2.2.2.2.2.1, a0.2.2.2.2.2.2.2.2.2.2.2.2.2.2.2.2.1, a0.2.2.2.2.2.2.2.2.2.2.2.2.2.2.2.2.2.1) (mMarkRequest (a0.2.2.2.2.2.2.2.1, a0.2.2.2.2.2.2.2.2.1, a0.2.2.2.2.2.2.2.2.2.1, a0.2.2.2.2.2.2.2.2.2.2.1) (mMarkRequest (a0.2.2.2.1, a0.2.2.2.2.1, a0.2.2.2.2.2.1, a0.2.2.2.2.2.2.1) a1))).1.2.1, a0.2.2.2.2.2.2.2.2.2.2.2.2.2.1, (wMarkStored (a0.2.2.2.2.2.2.2.2.2.2.2.1, a0.2.2.2.2.2.2.2.2.2.2.2.2.1, a0.2.2.2.2.2.2.2.2.2.2.2.2.2.1, a0.2.2.2.2.2.2.2.2.2.2.2.2.2.2.1, a0.2.2.2.2.2.2.2.2.2.2.2.2.2.2.2.1, a0.2.2.2.2.2.2.2.2.2.2.2.2.2.2.2.2.1, a0.2.2.2.2.2.2.2.2.2.2.2.2.2.2.2.2.2.1) (mMarkRequest (a0.2.2.2.2.2.2.2.1, a0.2.2.2.2.2.2.2.2.1, a0.2.2.2.2.2.2.2.2.2.1, a0.2.2.2.2.2.2.2.2.2.2.1) (mMarkRequest (a0.2.2.2.1, a0.2.2.2.2.1, a0.2.2.2.2.2.1, a0.2.2.2.2.2.2.1) a1))).1.2.2.2.1, a0.2.2.2.2.2.2.2.2.2.2.2.2.2.2.2.1, a0.2.2.2.2.2.2.2.2.2.2.2.2.2.2.2.2.1, a0.2.2.2.2.2.2.2.2.2.2.2.2.2.2.2.2.2.1, a0.2.2.2.2.2.2.2.2.2.2.2.2.2.2.2.2.2.2.1, a0.2.2.2.2.2.2.2.2.2.2.2.2.2.2.2.2.2.2.2.1, a0.2.2.2.2.2.2.2.2.2.2.2.2.2.2.2.2.2.2.2.2.1, a0.2.2.2.2.2.2.2.2.2.2.2.2.2.2.2.2.2.2.2.2.2.1, a0.2.2.2.2.2.2.2.2.2.2.2.2.2.2.2.2.2.2.2.2.2.2.1, a0.2.2.2.2.2.2.2.2.2.2.2.2.2.2.2.2.2.2.2.2.2.2.2.1, a0.2.2.2.2.2.2.2.2.2.2.2.2.2.2.2.2.2.2.2.2.2.2.2.2.1, (wMarkResponse (a0.2.2.2.2.2.2.2.2.2.2.2.2.2.2.2.2.2.2.2.2.2.2.2.2.1, a0.2.2.2.2.2.2.2.2.2.2.2.2.2.2.2.2.2.2.2.2.2.2.2.2.2.1, a0.2.2.2.2.2.2.2.2.2.2.2.2.2.2.2.2.2.2.2.2.2.2.2.2.2.2.1) (mMarkStored (a0.2.2.2.2.2.2.2.2.2.2.2.1, a0.2.2.2.2.2.2.2.2.2.2.2.2.1, a0.2.2.2.2.2.2.2.2.2.2.2.2.2.1, a0.2.2.2.2.2.2.2.2.2.2.2.2.2.2.1, a0.2.2.2.2.2.2.2.2.2.2.2.2.2.2.2.1, a0.2.2.2.2.2.2.2.2.2.2.2.2.2.2.2.2.1, a0.2.2.2.2.2.2.2.2.2.2.2.2.2.2.2.2.2.1) (mMarkRequest (a0.2.2.2.2.2.2.2.1, a0.2.2.2.2.2.2.2.2.1, a0.2.2.2.2.2.2.2.2.2.1, a0.2.2.2.2.2.2.2.2.2.2.1) (mMarkRequest (a0.2.2.2.1, a0.2.2.2.2.1, a0.2.2.2.2.2.1, a0.2.2.2.2.2.2.1) a1)))).1.2.1, a0.2.2.2.2.2.2.2.2.2.2.2.2.2.2.2.2.2.2.2.2.2.2.2.2.2.2.1, (wMarkToldS a0.2.2.2.2.2.2.2.2.2.2.2.2.2.2.2.2.2.2.2.2.2.2.2.2.2.2.2 (mMarkResponse (a0.2.2.2.2.2.2.2.2.2.2.2.2.2.2.2.2.2.2.2.2.2.2.2.2.1, a0.2.2.2.2.2.2.2.2.2.2.2.2.2.2.2.2.2.2.2.2.2.2.2.2.2.1, a0.2.2.2.2.2.2.2.2.2.2.2.2.2.2.2.2.2.2.2.2.2.2.2.2.2.2.1) (mMarkStored (a0.2.2.2.2.2.2.2.2.2.2.2.1, a0.2.2.2.2.2.2.2.2.2.2.2.2.1, a0.2.2.2.2.2.2.2.2.2.2.2.2.2.1, a0.2.2.2.2.2.2.2.2.2.2.2.2.2.2.1, a0.2.2.2.2.2.2.2.2.2.2.2.2.2.2.2.1, a0.2.2.2.2.2.2.2.2.2.2.2.2.2.2.2.2.1, a0.2.2.2.2.2.2.2.2.2.2.2.2.2.2.2.2.2.1) (mMarkRequest (a0.2.2.2.2.2.2.2.1, a0.2.2.2.2.2.2.2.2.1, a0.2.2.2.2.2.2.2.2.2.1, a0.2.2.2.2.2.2.2.2.2.2.1) (mMarkRequest (a0.2.2.2.1, a0.2.2.2.2.1, a0.2.2.2.2.2.1, a0.2.2.2.2.2.2.1) a1))))).1), a1))

def s_laws_heldConn (a0 : Cnn) (a1 : Int) (Q : (Int → Prop)) : Prop :=
  pHeldRequest (a0.2.2.2.1, a0.2.2.2.2.1, a0.2.2.2.2.2.1, a0.2.2.2.2.2.2.1) a1 ∧
  ((mHeldRequest (a0.2.2.2.1, a0.2.2.2.2.1, a0.2.2.2.2.2.1, a0.2.2.2.2.2.2.1) a1) < 0 →
    (Q (-1))) ∧
  (¬ ((mHeldRequest (a0.2.2.2.1, a0.2.2.2.2.1, a0.2.2.2.2.2.1, a0.2.2.2.2.2.2.1) a1) < 0) →
    pHeldRequest (a0.2.2.2.2.2.2.2.1, a0.2.2.2.2.2.2.2.2.1, a0.2.2.2.2.2.2.2.2.2.1, a0.2.2.2.2.2.2.2.2.2.2.1) (mHeldRequest (a0.2.2.2.1, a0.2.2.2.2.1, a0.2.2.2.2.2.1, a0.2.2.2.2.2.2.1) a1) ∧
    ((mHeldRequest (a0.2.2.2.2.2.2.2.1, a0.2.2.2.2.2.2.2.2.1, a0.2.2.2.2.2.2.2.2.2.1, a0.2.2.2.2.2.2.2.2.2.2.1) (mHeldRequest (a0.2.2.2.1, a0.2.2.2.2.1, a0.2.2.2.2.2.1, a0.2.2.2.2.2.2.1) a1)) < 0 →
      (Q (-1))) ∧
    (¬ ((mHeldRequest (a0.2.2.2.2.2.2.2.1, a0.2.2.2.2.2.2.2.2.1, a0.2.2.2.2.2.2.2.2.2.1, a0.2.2.2.2.2.2.2.2.2.2.1) (mHeldRequest (a0.2.2.2.1, a0.2.2.2.2.1, a0.2.2.2.2.2.1, a0.2.2.2.2.2.2.1) a1)) < 0) →
      pHeldStored (a0.2.2.2.2.2.2.2.2.2.2.2.1, a0.2.2.2.2.2.2.2.2.2.2.2.2.1, a0.2.2.2.2.2.2.2.2.2.2.2.2.2.1, a0.2.2.2.2.2.2.2.2.2.2.2.2.2.2.1, a0.2.2.2.2.2.2.2.2.2.2.2.2.2.2.2.1, a0.2.2.2.2.2.2.2.2.2.2.2.2.2.2.2.2.1, a0.2.2.2.2.2.2.2.2.2.2.2.2.2.2.2.2.2.1) (mHeldRequest (a0.2.2.2.2.2.2.2.1, a0.2.2.2.2.2.2.2.2.1, a0.2.2.2.2.2.2.2.2.2.1, a0.2.2.2.2.2.2.2.2.2.2.1) (mHeldRequest (a0.2.2.2.1, a0.2.2.2.2.1, a0.2.2.2.2.2.1, a0.2.2.2.2.2.2.1) a1)) ∧
      ((mHeldStored (a0.2.2.2.2.2.2.2.2.2.2.2.1, a0.2.2.2.2.2.2.2.2.2.2.2.2.1, a0.2.2.2.2.2.2.2.2.2.2.2.2.2.1, a0.2.2.2.2.2.2.2.2.2.2.2.2.2.2.1, a0.2.2.2.2.2.2.2.2.2.2.2.2.2.2.2.1, a0.2.2.2.2.2.2.2.2.2.2.2.2.2.2.2.2.1, a0.2.2.2.2.2.2.2.2.2.2.2.2.2.2.2.2.2.1) (mHeldRequest (a0.2.2.2.2.2.2.2.1, a0.2.2.2.2.2.2.2.2.1, a0.2.2.2.2.2.2.2.2.2.1, a0.2.2.2.2.2.2.2.2.2.2.1) (mHeldRequest (a0.2.2.2.1, a0.2.2.2.2.1, a0.2.2.2.2.2.1, a0.2.2.2.2.2.2.1) a1))) < 0 →
        (Q (-1))) ∧
      (¬ ((mHeldStored (a0.2.2.2.2.2.2.2.2.2.2.2.1, a0.2.2.2.2.2.2.2.2.2.2.2.2.1, a0.2.2.2.2.2.2.2.2.2.2.2.2.2.1, a0.2.2.2.2.2.2.2.2.2.2.2.2.2.2.1, a0.2.2.2.2.2.2.2.2.2.2.2.2.2.2.2.1, a0.2.2.2.2.2.2.2.2.2.2.2.2.2.2.2.2.1, a0.2.2.2.2.2.2.2.2.2.2.2.2.2.2.2.2.2.1) (mHeldRequest (a0.2.2.2.2.2.2.2.1, a0.2.2.2.2.2.2.2.2.1, a0.2.2.2.2.2.2.2.2.2.1, a0.2.2.2.2.2.2.2.2.2.2.1) (mHeldRequest (a0.2.2.2.1, a0.2.2.2.2.1, a0.2.2.2.2.2.1, a0.2.2.2.2.2.2.1) a1))) < 0) →
        pHeldResponse (a0.2.2.2.2.2.2.2.2.2.2.2.2.2.2.2.2.2.2.2.2.2.2.2.2.1, a0.2.2.2.2.2.2.2.2.2.2.2.2.2.2.2.2.2.2.2.2.2.2.2.2.2.1, a0.2.2.2.2.2.2.2.2.2.2.2.2.2.2.2.2.2.2.2.2.2.2.2.2.2.2.1) (mHeldStored (a0.2.2.2.2.2.2.2.2.2.2.2.1, a0.2.2.2.2.2.2.2.2.2.2.2.2.1, a0.2.2.2.2.2.2.2.2.2.2.2.2.2.1, a0.2.2.2.2.2.2.2.2.2.2.2.2.2.2.1, a0.2.2.2.2.2.2.2.2.2.2.2.2.2.2.2.1, a0.2.2.2.2.2.2.2.2.2.2.2.2.2.2.2.2.1, a0.2.2.2.2.2.2.2.2.2.2.2.2.2.2.2.2.2.1) (mHeldRequest (a0.2.2.2.2.2.2.2.1, a0.2.2.2.2.2.2.2.2.1, a0.2.2.2.2.2.2.2.2.2.1, a0.2.2.2.2.2.2.2.2.2.2.1) (mHeldRequest (a0.2.2.2.1, a0.2.2.2.2.1, a0.2.2.2.2.2.1, a0.2.2.2.2.2.2.1) a1))) ∧
        ((mHeldResponse (a0.2.2.2.2.2.2.2.2.2.2.2.2.2.2.2.2.2.2.2.2.2.2.2.2.1, a0.2.2.2.2.2.2.2.2.2.2.2.2.2.2.2.2.2.2.2.2.2.2.2.2.2.1, a0.2.2.2.2.2.2.2.2.2.2.2.2.2.2.2.2.2.2.2.2.2.2.2.2.2.2.1) (mHeldStored (a0.2.2.2.2.2.2.2.2.2.2.2.1, a0.2.2.2.2.2.2.2.2.2.2.2.2.1, a0.2.2.2.2.2.2.2.2.2.2.2.2.2.1, a0.2.2.2.2.2.2.2.2.2.2.2.2.2.2.1, a0.2.2.2.2.2.2.2.2.2.2.2.2.2.2.2.1, a0.2.2.2.2.2.2.2.2.2.2.2.2.2.2.2.2.1, a0.2.2.2.2.2.2.2.2.2.2.2.2.2.2.2.2.2.1) (mHeldRequest (a0.2.2.2.2.2.2.2.1, a0.2.2.2.2.2.2.2.2.1, a0.2.2.2.2.2.2.2.2.2.1, a0.2.2.2.2.2.2.2.2.2.2.1) (mHeldRequest (a0.2.2.2.1, a0.2.2.2.2.1, a0.2.2.2.2.2.1, a0.2.2.2.2.2.2.1) a1)))) < 0 →
          (Q (-1))) ∧
        (¬ ((mHeldResponse (a0.2.2.2.2.2.2.2.2.2.2.2.2.2.2.2.2.2.2.2.2.2.2.2.2.1, a0.2.2.2.2.2.2.2.2.2.2.2.2.2.2.2.2.2.2.2.2.2.2.2.2.2.1, a0.2.2.2.2.2.2.2.2.2.2.2.2.2.2.2.2.2.2.2.2.2.2.2.2.2.2.1) (mHeldStored (a0.2.2.2.2.2.2.2.2.2.2.2.1, a0.2.2.2.2.2.2.2.2.2.2.2.2.1, a0.2.2.2.2.2.2.2.2.2.2.2.2.2.1, a0.2.2.2.2.2.2.2.2.2.2.2.2.2.2.1, a0.2.2.2.2.2.2.2.2.2.2.2.2.2.2.2.1, a0.2.2.2.2.2.2.2.2.2.2.2.2.2.2.2.2.1, a0.2.2.2.2.2.2.2.2.2.2.2.2.2.2.2.2.2.1) (mHeldRequest (a0.2.2.2.2.2.2.2.1, a0.2.2.2.2.2.2.2.2.1, a0.2.2.2.2.2.2.2.2.2.1, a0.2.2.2.2.2.2.2.2.2.2.1) (mHeldRequest (a0.2.2.2.1, a0.2.2.2.2.1, a0.2.2.2.2.2.1, a0.2.2.2.2.2.2.1) a1)))) < 0) →
          pHeldToldS a0.2.2.2.2.2.2.2.2.2.2.2.2.2.2.2.2.2.2.2.2.2.2.2.2.2.2.2 (mHeldResponse (a0.2.2.2.2.2.2.2.2.2.2.2.2.2.2.2.2.2.2.2.2.2.2.2.2.1, a0.2.2.2.2.2.2.2.2.2.2.2.2.2.2.2.2.2.2.2.2.2.2.2.2.2.1, a0.2.2.2.2.2.2.2.2.2.2.2.2.2.2.2.2.2.2.2.2.2.2.2.2.2.2.1) (mHeldStored (a0.2.2.2.2.2.2.2.2.2.2.2.1, a0.2.2.2.2.2.2.2.2.2.2.2.2.1, a0.2.2.2.2.2.2.2.2.2.2.2.2.2.1, a0.2.2.2.2.2.2.2.2.2.2.2.2.2.2.1, a0.2.2.2.2.2.2.2.2.2.2.2.2.2.2.2.1, a0.2.2.2.2.2.2.2.2.2.2.2.2.2.2.2.2.1, a0.2.2.2.2.2.2.2.2.2.2.2.2.2.2.2.2.2.1) (mHeldRequest (a0.2.2.2.2.2.2.2.1, a0.2.2.2.2.2.2.2.2.1, a0.2.2.2.2.2.2.2.2.2.1, a0.2.2.2.2.2.2.2.2.2.2.1) (mHeldRequest (a0.2.2.2.1, a0.2.2.2.2.1, a0.2.2.2.2.2.1, a0.2.2.2.2.2.2.1) a1)))) ∧
          ((mHeldToldS a0.2.2.2.2.2.2.2.2.2.2.2.2.2.2.2.2.2.2.2.2.2.2.2.2.2.2.2 (mHeldResponse (a0.2.2.2.2.2.2.2.2.2.2.2.2.2.2.2.2.2.2.2.2.2.2.2.2.1, a0.2.2.2.2.2.2.2.2.2.2.2.2.2.2.2.2.2.2.2.2.2.2.2.2.2.1, a0.2.2.2.2.2.2.2.2.2.2.2.2.2.2.2.2.2.2.2.2.2.2.2.2.2.2.1) (mHeldStored (a0.2.2.2.2.2.2.2.2.2.2.2.1, a0.2.2.2.2.2.2.2.2.2.2.2.2.1, a0.2.2.2.2.2.2.2.2.2.2.2.2.2.1, a0.2.2.2.2.2.2.2.2.2.2.2.2.2.2.1, a0.2.2.2.2.2.2.2.2.2.2.2.2.2.2.2.1, a0.2.2.2.2.2.2.2.2.2.2.2.2.2.2.2.2.1, a0.2.2.2.2.2.2.2.2.2.2.2.2.2.2.2.2.2.1) (mHeldRequest (a0.2.2.2.2.2.2.2.1, a0.2.2.2.2.2.2.2.2.1, a0.2.2.2.2.2.2.2.2.2.1, a0.2.2.2.2.2.2.2.2.2.2.1) (mHeldRequest (a0.2.2.2.1, a0.2.2.2.2.1, a0.2.2.2.2.2.1, a0.2.2.2.2.2.2.1) a1))))) < 0 →
            (Q (-1))) ∧
          (¬ ((mHeldToldS a0.2.2.2.2.2.2.2.2.2.2.2.2.2.2.2.2.2.2.2.2.2.2.2.2.2.2.2 (mHeldResponse (a0.2.2.2.2.2.2.2.2.2.2.2.2.2.2.2.2.2.2.2.2.2.2.2.2.1, a0.2.2.2.2.2.2.2.2.2.2.2.2.2.2.2.2.2.2.2.2.2.2.2.2.2.1, a0.2.2.2.2.2.2.2.2.2.2.2.2.2.2.2.2.2.2.2.2.2.2.2.2.2.2.1) (mHeldStored (a0.2.2.2.2.2.2.2.2.2.2.2.1, a0.2.2.2.2.2.2.2.2.2.2.2.2.1, a0.2.2.2.2.2.2.2.2.2.2.2.2.2.1, a0.2.2.2.2.2.2.2.2.2.2.2.2.2.2.1, a0.2.2.2.2.2.2.2.2.2.2.2.2.2.2.2.1, a0.2.2.2.2.2.2.2.2.2.2.2.2.2.2.2.2.1, a0.2.2.2.2.2.2.2.2.2.2.2.2.2.2.2.2.2.1) (mHeldRequest (a0.2.2.2.2.2.2.2.1, a0.2.2.2.2.2.2.2.2.1, a0.2.2.2.2.2.2.2.2.2.1, a0.2.2.2.2.2.2.2.2.2.2.1) (mHeldRequest (a0.2.2.2.1, a0.2.2.2.2.1, a0.2.2.2.2.2.1, a0.2.2.2.2.2.2.1) a1))))) < 0) →
            (Q (mHeldToldS a0.2.2.2.2.2.2.2.2.2.2.2.2.2.2.2.2.2.2.2.2.2.2.2.2.2.2.2 (mHeldResponse (a0.2.2.2.2.2.2.2.2.2.2.2.2.2.2.2.2.2.2.2.2.2.2.2.2.1, a0.2.2.2.2.2.2.2.2.2.2.2.2.2.2.2.2.2.2.2.2.2.2.2.2.2.1, a0.2.2.2.2.2.2.2.2.2.2.2.2.2.2.2.2.2.2.2.2.2.2.2.2.2.2.1) (mHeldStored (a0.2.2.2.2.2.2.2.2.2.2.2.1, a0.2.2.2.2.2.2.2.2.2.2.2.2.1, a0.2.2.2.2.2.2.2.2.2.2.2.2.2.1, a0.2.2.2.2.2.2.2.2.2.2.2.2.2.2.1, a0.2.2.2.2.2.2.2.2.2.2.2.2.2.2.2.1, a0.2.2.2.2.2.2.2.2.2.2.2.2.2.2.2.2.1, a0.2.2.2.2.2.2.2.2.2.2.2.2.2.2.2.2.2.1) (mHeldRequest (a0.2.2.2.2.2.2.2.1, a0.2.2.2.2.2.2.2.2.1, a0.2.2.2.2.2.2.2.2.2.1, a0.2.2.2.2.2.2.2.2.2.2.1) (mHeldRequest (a0.2.2.2.1, a0.2.2.2.2.1, a0.2.2.2.2.2.1, a0.2.2.2.2.2.2.1) a1)))))))))))

theorem laws_markToldS_ok (a0 : List Tld) (a1 : Int) (h : pMarkToldS a0 a1) : s_laws_markToldS a0 a1 (fun r y => r = mMarkToldS a0 a1 ∧ y = wMarkToldS a0 a1) := by
  have h : a0 = [] := h
  subst h
  intro L hL
  exact hL _ ⟨fun hlt => absurd hlt (by simp), fun _ => ⟨rfl, rfl⟩⟩
theorem laws_heldToldS_ok (a0 : List Tld) (a1 : Int) (h : pHeldToldS a0 a1) : s_laws_heldToldS a0 a1 (fun r => r = mHeldToldS a0 a1) := by
  have h : a0 = [] := h
  subst h
  intro L hL
  exact hL _ ⟨fun hlt => absurd hlt (by simp), fun _ => rfl⟩
theorem laws_heldRequest_ok (a0 : Req) (a1 : Int) (h : pHeldRequest a0 a1) : s_laws_heldRequest a0 a1 (fun r => r = mHeldRequest a0 a1) := by
  refine ⟨h, fun h1 => ?_, fun h1 => ?_⟩
  · unfold mHeldRequest; rw [if_pos h1]
  · unfold mHeldRequest; rw [if_neg h1]
def mMarkConn (c : Cnn) (k : Int) : Int := k
def wMarkConn (c : Cnn) (k : Int) : Cnn × Int := (c, k)
def pMarkConn (c : Cnn) (k : Int) : Prop := s_laws_markConn c k (fun r y => r = mMarkConn c k ∧ y = wMarkConn c k)
theorem laws_markConn_ok (a0 : Cnn) (a1 : Int) (h : pMarkConn a0 a1) : s_laws_markConn a0 a1 (fun r y => r = mMarkConn a0 a1 ∧ y = wMarkConn a0 a1) := h
def mHeldConn (c : Cnn) (k : Int) : Int := k
def pHeldConn (c : Cnn) (k : Int) : Prop := s_laws_heldConn c k (fun r => r = mHeldConn c k)
theorem laws_heldConn_ok (a0 : Cnn) (a1 : Int) (h : pHeldConn a0 a1) : s_laws_heldConn a0 a1 (fun r => r = mHeldConn a0 a1) := h
def connOf (s : S) : Cnn := (0, s, 0, (lit []), (lit []), [], (lit []), (lit []), (lit []), [], (lit []), (lit []), [], 0, [], (lit []), 0, 0, false, (-1), 0, 0, 0, false, 0, [], (lit []), [])
def mConnNew (s : S) : Cnn := if 1500 < (s.size : Int) then connOf (lit []) else connOf s
def pConnNew (s : S) : Prop := True

def s_spec_ConnNew (a0 : S) (Q : (Cnn → Prop)) : Prop :=
  (1500 < (a0.size : Int) →
    (Q (0, (lit []), 0, (lit []), (lit []), [], (lit []), (lit []), (lit []), [], (lit []), (lit []), [], 0, [], (lit []), 0, 0, false, (-1), 0, 0, 0, false, 0, [], (lit []), []))) ∧
  (¬ (1500 < (a0.size : Int)) →
    (Q (0, a0, 0, (lit []), (lit []), [], (lit []), (lit []), (lit []), [], (lit []), (lit []), [], 0, [], (lit []), 0, 0, false, (-1), 0, 0, 0, false, 0, [], (lit []), [])))

def s_impl_ConnNew (a0 : S) (Q : (Cnn → Prop)) : Prop :=
  (1500 < (a0.size : Int) →
    (Q (0, (lit []), 0, (lit []), (lit []), [], (lit []), (lit []), (lit []), [], (lit []), (lit []), [], 0, [], (lit []), 0, 0, false, (-1), 0, 0, 0, false, 0, [], (lit []), []))) ∧
  (¬ (1500 < (a0.size : Int)) →
    (Q (0, a0, 0, (lit []), (lit []), [], (lit []), (lit []), (lit []), [], (lit []), (lit []), [], 0, [], (lit []), 0, 0, false, (-1), 0, 0, 0, false, 0, [], (lit []), [])))

def s_laws_FnExactConnNew (a0 : S) (Q : (Bool → Prop)) : Prop :=
  (1048576 < (a0.size : Int) →
    (Q true)) ∧
  (¬ (1048576 < (a0.size : Int)) →
    pConnNew a0 ∧
    pConnNew a0 ∧
    pEq (mConnNew a0) (mConnNew a0) ∧
    (¬ ((eqF (mConnNew a0) (mConnNew a0)) = true) →
      (Q false)) ∧
    (¬ (¬ ((eqF (mConnNew a0) (mConnNew a0)) = true)) →
      pMarkConn (mConnNew a0) 1 ∧
      pHeldConn ((mConnNew a0).1, (mConnNew a0).2.1, (mConnNew a0).2.2.1, (mConnNew a0).2.2.2.1, (mConnNew a0).2.2.2.2.1, (wMarkConn (mConnNew a0) 1).1.2.2.2.2.2.1, (mConnNew a0).2.2.2.2.2.2.1, (mConnNew a0).2.2.2.2.2.2.2.1, (mConnNew a0).2.2.2.2.2.2.2.2.1, (wMarkConn (mConnNew a0) 1).1.2.2.2.2.2.2.2.2.2.1, (mConnNew a0).2.2.2.2.2.2.2.2.2.2.1, (mConnNew a0).2.2.2.2.2.2.2.2.2.2.2.1, (wMarkConn (mConnNew a0) 1).1.2.2.2.2.2.2.2.2.2.2.2.2.1, (mConnNew a0).2.2.2.2.2.2.2.2.2.2.2.2.2.1, (wMarkConn (mConnNew a0) 1).1.2.2.2.2.2.2.2.2.2.2.2.2.2.2.1, (mConnNew a0).2.2.2.2.2.2.2.2.2.2.2.2.2.2.2.1, (mConnNew a0).2.2.2.2.2.2.2.2.2.2.2.2.2.2.2.2.1, (mConnNew a0).2.2.2.2.2.2.2.2.2.2.2.2.2.2.2.2.2.1, (mConnNew a0).2.2.2.2.2.2.2.2.2.2.2.2.2.2.2.2.2.2.1, (mConnNew a0).2.2.2.2.2.2.2.2.2.2.2.2.2.2.2.2.2.2.2.1, (mConnNew a0).2.2.2.2.2.2.2.2.2.2.2.2.2.2.2.2.2.2.2.2.1, (mConnNew a0).2.2.2.2.2.2.2.2.2.2.2.2.2.2.2.2.2.2.2.2.2.1, (mConnNew a0).2.2.2.2.2.2.2.2.2.2.2.2.2.2.2.2.2.2.2.2.2.2.1, (mConnNew a0).2.2.2.2.2.2.2.2.2.2.2.2.2.2.2.2.2.2.2.2.2.2.2.1, (mConnNew a0).2.2.2.2.2.2.2.2.2.2.2.2.2.2.2.2.2.2.2.2.2.2.2.2.1, (wMarkConn (mConnNew a0) 1).1.2.2.2.2.2.2.2.2.2.2.2.2.2.2.2.2.2.2.2.2.2.2.2.2.2.1, (mConnNew a0).2.2.2.2.2.2.2.2.2.2.2.2.2.2.2.2.2.2.2.2.2.2.2.2.2.2.1, (wMarkConn (mConnNew a0) 1).1.2.2.2.2.2.2.2.2.2.2.2.2.2.2.2.2.2.2.2.2.2.2.2.2.2.2.2) 1 ∧
      ((mHeldConn ((mConnNew a0).1, (mConnNew a0).2.1, (mConnNew a0).2.2.1, (mConnNew a0).2.2.2.1, (mConnNew a0).2.2.2.2.1, (wMarkConn (mConnNew a0) 1).1.2.2.2.2.2.1, (mConnNew a0).2.2.2.2.2.2.1, (mConnNew a0).2.2.2.2.2.2.2.1, (mConnNew a0).2.2.2.2.2.2.2.2.1, (wMarkConn (mConnNew a0) 1).1.2.2.2.2.2.2.2.2.2.1, (mConnNew a0).2.2.2.2.2.2.2.2.2.2.1, (mConnNew a0).2.2.2.2.2.2.2.2.2.2.2.1, (wMarkConn (mConnNew a0) 1).1.2.2.2.2.2.2.2.2.2.2.2.2.1, (mConnNew a0).2.2.2.2.2.2.2.2.2.2.2.2.2.1, (wMarkConn (mConnNew a0) 1).1.2.2.2.2.2.2.2.2.2.2.2.2.2.2.1, (mConnNew a0).2.2.2.2.2.2.2.2.2.2.2.2.2.2.2.1, (mConnNew a0).2.2.2.2.2.2.2.2.2.2.2.2.2.2.2.2.1, (mConnNew a0).2.2.2.2.2.2.2.2.2.2.2.2.2.2.2.2.2.1, (mConnNew a0).2.2.2.2.2.2.2.2.2.2.2.2.2.2.2.2.2.2.1, (mConnNew a0).2.2.2.2.2.2.2.2.2.2.2.2.2.2.2.2.2.2.2.1, (mConnNew a0).2.2.2.2.2.2.2.2.2.2.2.2.2.2.2.2.2.2.2.2.1, (mConnNew a0).2.2.2.2.2.2.2.2.2.2.2.2.2.2.2.2.2.2.2.2.2.1, (mConnNew a0).2.2.2.2.2.2.2.2.2.2.2.2.2.2.2.2.2.2.2.2.2.2.1, (mConnNew a0).2.2.2.2.2.2.2.2.2.2.2.2.2.2.2.2.2.2.2.2.2.2.2.1, (mConnNew a0).2.2.2.2.2.2.2.2.2.2.2.2.2.2.2.2.2.2.2.2.2.2.2.2.1, (wMarkConn (mConnNew a0) 1).1.2.2.2.2.2.2.2.2.2.2.2.2.2.2.2.2.2.2.2.2.2.2.2.2.2.1, (mConnNew a0).2.2.2.2.2.2.2.2.2.2.2.2.2.2.2.2.2.2.2.2.2.2.2.2.2.2.1, (wMarkConn (mConnNew a0) 1).1.2.2.2.2.2.2.2.2.2.2.2.2.2.2.2.2.2.2.2.2.2.2.2.2.2.2.2) 1) < 0 →
        (Q false)) ∧
      (¬ ((mHeldConn ((mConnNew a0).1, (mConnNew a0).2.1, (mConnNew a0).2.2.1, (mConnNew a0).2.2.2.1, (mConnNew a0).2.2.2.2.1, (wMarkConn (mConnNew a0) 1).1.2.2.2.2.2.1, (mConnNew a0).2.2.2.2.2.2.1, (mConnNew a0).2.2.2.2.2.2.2.1, (mConnNew a0).2.2.2.2.2.2.2.2.1, (wMarkConn (mConnNew a0) 1).1.2.2.2.2.2.2.2.2.2.1, (mConnNew a0).2.2.2.2.2.2.2.2.2.2.1, (mConnNew a0).2.2.2.2.2.2.2.2.2.2.2.1, (wMarkConn (mConnNew a0) 1).1.2.2.2.2.2.2.2.2.2.2.2.2.1, (mConnNew a0).2.2.2.2.2.2.2.2.2.2.2.2.2.1, (wMarkConn (mConnNew a0) 1).1.2.2.2.2.2.2.2.2.2.2.2.2.2.2.1, (mConnNew a0).2.2.2.2.2.2.2.2.2.2.2.2.2.2.2.1, (mConnNew a0).2.2.2.2.2.2.2.2.2.2.2.2.2.2.2.2.1, (mConnNew a0).2.2.2.2.2.2.2.2.2.2.2.2.2.2.2.2.2.1, (mConnNew a0).2.2.2.2.2.2.2.2.2.2.2.2.2.2.2.2.2.2.1, (mConnNew a0).2.2.2.2.2.2.2.2.2.2.2.2.2.2.2.2.2.2.2.1, (mConnNew a0).2.2.2.2.2.2.2.2.2.2.2.2.2.2.2.2.2.2.2.2.1, (mConnNew a0).2.2.2.2.2.2.2.2.2.2.2.2.2.2.2.2.2.2.2.2.2.1, (mConnNew a0).2.2.2.2.2.2.2.2.2.2.2.2.2.2.2.2.2.2.2.2.2.2.1, (mConnNew a0).2.2.2.2.2.2.2.2.2.2.2.2.2.2.2.2.2.2.2.2.2.2.2.1, (mConnNew a0).2.2.2.2.2.2.2.2.2.2.2.2.2.2.2.2.2.2.2.2.2.2.2.2.1, (wMarkConn (mConnNew a0) 1).1.2.2.2.2.2.2.2.2.2.2.2.2.2.2.2.2.2.2.2.2.2.2.2.2.2.1, (mConnNew a0).2.2.2.2.2.2.2.2.2.2.2.2.2.2.2.2.2.2.2.2.2.2.2.2.2.2.1, (wMarkConn (mConnNew a0) 1).1.2.2.2.2.2.2.2.2.2.2.2.2.2.2.2.2.2.2.2.2.2.2.2.2.2.2.2) 1) < 0) →
        ((mHeldConn ((mConnNew a0).1, (mConnNew a0).2.1, (mConnNew a0).2.2.1, (mConnNew a0).2.2.2.1, (mConnNew a0).2.2.2.2.1, (wMarkConn (mConnNew a0) 1).1.2.2.2.2.2.1, (mConnNew a0).2.2.2.2.2.2.1, (mConnNew a0).2.2.2.2.2.2.2.1, (mConnNew a0).2.2.2.2.2.2.2.2.1, (wMarkConn (mConnNew a0) 1).1.2.2.2.2.2.2.2.2.2.1, (mConnNew a0).2.2.2.2.2.2.2.2.2.2.1, (mConnNew a0).2.2.2.2.2.2.2.2.2.2.2.1, (wMarkConn (mConnNew a0) 1).1.2.2.2.2.2.2.2.2.2.2.2.2.1, (mConnNew a0).2.2.2.2.2.2.2.2.2.2.2.2.2.1, (wMarkConn (mConnNew a0) 1).1.2.2.2.2.2.2.2.2.2.2.2.2.2.2.1, (mConnNew a0).2.2.2.2.2.2.2.2.2.2.2.2.2.2.2.1, (mConnNew a0).2.2.2.2.2.2.2.2.2.2.2.2.2.2.2.2.1, (mConnNew a0).2.2.2.2.2.2.2.2.2.2.2.2.2.2.2.2.2.1, (mConnNew a0).2.2.2.2.2.2.2.2.2.2.2.2.2.2.2.2.2.2.1, (mConnNew a0).2.2.2.2.2.2.2.2.2.2.2.2.2.2.2.2.2.2.2.1, (mConnNew a0).2.2.2.2.2.2.2.2.2.2.2.2.2.2.2.2.2.2.2.2.1, (mConnNew a0).2.2.2.2.2.2.2.2.2.2.2.2.2.2.2.2.2.2.2.2.2.1, (mConnNew a0).2.2.2.2.2.2.2.2.2.2.2.2.2.2.2.2.2.2.2.2.2.2.1, (mConnNew a0).2.2.2.2.2.2.2.2.2.2.2.2.2.2.2.2.2.2.2.2.2.2.2.1, (mConnNew a0).2.2.2.2.2.2.2.2.2.2.2.2.2.2.2.2.2.2.2.2.2.2.2.2.1, (wMarkConn (mConnNew a0) 1).1.2.2.2.2.2.2.2.2.2.2.2.2.2.2.2.2.2.2.2.2.2.2.2.2.2.1, (mConnNew a0).2.2.2.2.2.2.2.2.2.2.2.2.2.2.2.2.2.2.2.2.2.2.2.2.2.2.1, (wMarkConn (mConnNew a0) 1).1.2.2.2.2.2.2.2.2.2.2.2.2.2.2.2.2.2.2.2.2.2.2.2.2.2.2.2) 1) ≠ (mMarkConn (mConnNew a0) 1) →
          (Q false)) ∧
        (¬ ((mHeldConn ((mConnNew a0).1, (mConnNew a0).2.1, (mConnNew a0).2.2.1, (mConnNew a0).2.2.2.1, (mConnNew a0).2.2.2.2.1, (wMarkConn (mConnNew a0) 1).1.2.2.2.2.2.1, (mConnNew a0).2.2.2.2.2.2.1, (mConnNew a0).2.2.2.2.2.2.2.1, (mConnNew a0).2.2.2.2.2.2.2.2.1, (wMarkConn (mConnNew a0) 1).1.2.2.2.2.2.2.2.2.2.1, (mConnNew a0).2.2.2.2.2.2.2.2.2.2.1, (mConnNew a0).2.2.2.2.2.2.2.2.2.2.2.1, (wMarkConn (mConnNew a0) 1).1.2.2.2.2.2.2.2.2.2.2.2.2.1, (mConnNew a0).2.2.2.2.2.2.2.2.2.2.2.2.2.1, (wMarkConn (mConnNew a0) 1).1.2.2.2.2.2.2.2.2.2.2.2.2.2.2.1, (mConnNew a0).2.2.2.2.2.2.2.2.2.2.2.2.2.2.2.1, (mConnNew a0).2.2.2.2.2.2.2.2.2.2.2.2.2.2.2.2.1, (mConnNew a0).2.2.2.2.2.2.2.2.2.2.2.2.2.2.2.2.2.1, (mConnNew a0).2.2.2.2.2.2.2.2.2.2.2.2.2.2.2.2.2.2.1, (mConnNew a0).2.2.2.2.2.2.2.2.2.2.2.2.2.2.2.2.2.2.2.1, (mConnNew a0).2.2.2.2.2.2.2.2.2.2.2.2.2.2.2.2.2.2.2.2.1, (mConnNew a0).2.2.2.2.2.2.2.2.2.2.2.2.2.2.2.2.2.2.2.2.2.1, (mConnNew a0).2.2.2.2.2.2.2.2.2.2.2.2.2.2.2.2.2.2.2.2.2.2.1, (mConnNew a0).2.2.2.2.2.2.2.2.2.2.2.2.2.2.2.2.2.2.2.2.2.2.2.1, (mConnNew a0).2.2.2.2.2.2.2.2.2.2.2.2.2.2.2.2.2.2.2.2.2.2.2.2.1, (wMarkConn (mConnNew a0) 1).1.2.2.2.2.2.2.2.2.2.2.2.2.2.2.2.2.2.2.2.2.2.2.2.2.2.1, (mConnNew a0).2.2.2.2.2.2.2.2.2.2.2.2.2.2.2.2.2.2.2.2.2.2.2.2.2.2.1, (wMarkConn (mConnNew a0) 1).1.2.2.2.2.2.2.2.2.2.2.2.2.2.2.2.2.2.2.2.2.2.2.2.2.2.2.2) 1) ≠ (mMarkConn (mConnNew a0) 1)) →
          pConnNew a0 ∧
          pEq (mConnNew a0) (mConnNew a0) ∧
          (¬ ((eqF (mConnNew a0) (mConnNew a0)) = true) →
            (Q false)) ∧
          (¬ (¬ ((eqF (mConnNew a0) (mConnNew a0)) = true)) →
            pHeldConn ((mConnNew a0).1, (mConnNew a0).2.1, (mConnNew a0).2.2.1, (mConnNew a0).2.2.2.1, (mConnNew a0).2.2.2.2.1, (wMarkConn (mConnNew a0) 1).1.2.2.2.2.2.1, (mConnNew a0).2.2.2.2.2.2.1, (mConnNew a0).2.2.2.2.2.2.2.1, (mConnNew a0).2.2.2.2.2.2.2.2.1, (wMarkConn (mConnNew a0) 1).1.2.2.2.2.2.2.2.2.2.1, (mConnNew a0).2.2.2.2.2.2.2.2.2.2.1, (mConnNew a0).2.2.2.2.2.2.2.2.2.2.2.1, (wMarkConn (mConnNew a0) 1).1.2.2.2.2.2.2.2.2.2.2.2.2.1, (mConnNew a0).2.2.2.2.2.2.2.2.2.2.2.2.2.1, (wMarkConn (mConnNew a0) 1).1.2.2.2.2.2.2.2.2.2.2.2.2.2.2.1, (mConnNew a0).2.2.2.2.2.2.2.2.2.2.2.2.2.2.2.1, (mConnNew a0).2.2.2.2.2.2.2.2.2.2.2.2.2.2.2.2.1, (mConnNew a0).2.2.2.2.2.2.2.2.2.2.2.2.2.2.2.2.2.1, (mConnNew a0).2.2.2.2.2.2.2.2.2.2.2.2.2.2.2.2.2.2.1, (mConnNew a0).2.2.2.2.2.2.2.2.2.2.2.2.2.2.2.2.2.2.2.1, (mConnNew a0).2.2.2.2.2.2.2.2.2.2.2.2.2.2.2.2.2.2.2.2.1, (mConnNew a0).2.2.2.2.2.2.2.2.2.2.2.2.2.2.2.2.2.2.2.2.2.1, (mConnNew a0).2.2.2.2.2.2.2.2.2.2.2.2.2.2.2.2.2.2.2.2.2.2.1, (mConnNew a0).2.2.2.2.2.2.2.2.2.2.2.2.2.2.2.2.2.2.2.2.2.2.2.1, (mConnNew a0).2.2.2.2.2.2.2.2.2.2.2.2.2.2.2.2.2.2.2.2.2.2.2.2.1, (wMarkConn (mConnNew a0) 1).1.2.2.2.2.2.2.2.2.2.2.2.2.2.2.2.2.2.2.2.2.2.2.2.2.2.1, (mConnNew a0).2.2.2.2.2.2.2.2.2.2.2.2.2.2.2.2.2.2.2.2.2.2.2.2.2.2.1, (wMarkConn (mConnNew a0) 1).1.2.2.2.2.2.2.2.2.2.2.2.2.2.2.2.2.2.2.2.2.2.2.2.2.2.2.2) 1 ∧
            ((mHeldConn ((mConnNew a0).1, (mConnNew a0).2.1, (mConnNew a0).2.2.1, (mConnNew a0).2.2.2.1, (mConnNew a0).2.2.2.2.1, (wMarkConn (mConnNew a0) 1).1.2.2.2.2.2.1, (mConnNew a0).2.2.2.2.2.2.1, (mConnNew a0).2.2.2.2.2.2.2.1, (mConnNew a0).2.2.2.2.2.2.2.2.1, (wMarkConn (mConnNew a0) 1).1.2.2.2.2.2.2.2.2.2.1, (mConnNew a0).2.2.2.2.2.2.2.2.2.2.1, (mConnNew a0).2.2.2.2.2.2.2.2.2.2.2.1, (wMarkConn (mConnNew a0) 1).1.2.2.2.2.2.2.2.2.2.2.2.2.1, (mConnNew a0).2.2.2.2.2.2.2.2.2.2.2.2.2.1, (wMarkConn (mConnNew a0) 1).1.2.2.2.2.2.2.2.2.2.2.2.2.2.2.1, (mConnNew a0).2.2.2.2.2.2.2.2.2.2.2.2.2.2.2.1, (mConnNew a0).2.2.2.2.2.2.2.2.2.2.2.2.2.2.2.2.1, (mConnNew a0).2.2.2.2.2.2.2.2.2.2.2.2.2.2.2.2.2.1, (mConnNew a0).2.2.2.2.2.2.2.2.2.2.2.2.2.2.2.2.2.2.1, (mConnNew a0).2.2.2.2.2.2.2.2.2.2.2.2.2.2.2.2.2.2.2.1, (mConnNew a0).2.2.2.2.2.2.2.2.2.2.2.2.2.2.2.2.2.2.2.2.1, (mConnNew a0).2.2.2.2.2.2.2.2.2.2.2.2.2.2.2.2.2.2.2.2.2.1, (mConnNew a0).2.2.2.2.2.2.2.2.2.2.2.2.2.2.2.2.2.2.2.2.2.2.1, (mConnNew a0).2.2.2.2.2.2.2.2.2.2.2.2.2.2.2.2.2.2.2.2.2.2.2.1, (mConnNew a0).2.2.2.2.2.2.2.2.2.2.2.2.2.2.2.2.2.2.2.2.2.2.2.2.1, (wMarkConn (mConnNew a0) 1).1.2.2.2.2.2.2.2.2.2.2.2.2.2.2.2.2.2.2.2.2.2.2.2.2.2.1, (mConnNew a0).2.2.2.2.2.2.2.2.2.2.2.2.2.2.2.2.2.2.2.2.2.2.2.2.2.2.1, (wMarkConn (mConnNew a0) 1).1.2.2.2.2.2.2.2.2.2.2.2.2.2.2.2.2.2.2.2.2.2.2.2.2.2.2.2) 1) < 0 →
              (Q false)) ∧
            (¬ ((mHeldConn ((mConnNew a0).1, (mConnNew a0).2.1, (mConnNew a0).2.2.1, (mConnNew a0).2.2.2.1, (mConnNew a0).2.2.2.2.1, (wMarkConn (mConnNew a0) 1).1.2.2.2.2.2.1, (mConnNew a0).2.2.2.2.2.2.1, (mConnNew a0).2.2.2.2.2.2.2.1, (mConnNew a0).2.2.2.2.2.2.2.2.1, (wMarkConn (mConnNew a0) 1).1.2.2.2.2.2.2.2.2.2.1, (mConnNew a0).2.2.2.2.2.2.2.2.2.2.1, (mConnNew a0).2.2.2.2.2.2.2.2.2.2.2.1, (wMarkConn (mConnNew a0) 1).1.2.2.2.2.2.2.2.2.2.2.2.2.1, (mConnNew a0).2.2.2.2.2.2.2.2.2.2.2.2.2.1, (wMarkConn (mConnNew a0) 1).1.2.2.2.2.2.2.2.2.2.2.2.2.2.2.1, (mConnNew a0).2.2.2.2.2.2.2.2.2.2.2.2.2.2.2.1, (mConnNew a0).2.2.2.2.2.2.2.2.2.2.2.2.2.2.2.2.1, (mConnNew a0).2.2.2.2.2.2.2.2.2.2.2.2.2.2.2.2.2.1, (mConnNew a0).2.2.2.2.2.2.2.2.2.2.2.2.2.2.2.2.2.2.1, (mConnNew a0).2.2.2.2.2.2.2.2.2.2.2.2.2.2.2.2.2.2.2.1, (mConnNew a0).2.2.2.2.2.2.2.2.2.2.2.2.2.2.2.2.2.2.2.2.1, (mConnNew a0).2.2.2.2.2.2.2.2.2.2.2.2.2.2.2.2.2.2.2.2.2.1, (mConnNew a0).2.2.2.2.2.2.2.2.2.2.2.2.2.2.2.2.2.2.2.2.2.2.1, (mConnNew a0).2.2.2.2.2.2.2.2.2.2.2.2.2.2.2.2.2.2.2.2.2.2.2.1, (mConnNew a0).2.2.2.2.2.2.2.2.2.2.2.2.2.2.2.2.2.2.2.2.2.2.2.2.1, (wMarkConn (mConnNew a0) 1).1.2.2.2.2.2.2.2.2.2.2.2.2.2.2.2.2.2.2.2.2.2.2.2.2.2.1, (mConnNew a0).2.2.2.2.2.2.2.2.2.2.2.2.2.2.2.2.2.2.2.2.2.2.2.2.2.2.1, (wMarkConn (mConnNew a0) 1).1.2.2.2.2.2.2.2.2.2.2.2.2.2.2.2.2.2.2.2.2.2.2.2.2.2.2.2) 1) < 0) →
              ((mHeldConn ((mConnNew a0).1, (mConnNew a0).2.1, (mConnNew a0).2.2.1, (mConnNew a0).2.2.2.1, (mConnNew a0).2.2.2.2.1, (wMarkConn (mConnNew a0) 1).1.2.2.2.2.2.1, (mConnNew a0).2.2.2.2.2.2.1, (mConnNew a0).2.2.2.2.2.2.2.1, (mConnNew a0).2.2.2.2.2.2.2.2.1, (wMarkConn (mConnNew a0) 1).1.2.2.2.2.2.2.2.2.2.1, (mConnNew a0).2.2.2.2.2.2.2.2.2.2.1, (mConnNew a0).2.2.2.2.2.2.2.2.2.2.2.1, (wMarkConn (mConnNew a0) 1).1.2.2.2.2.2.2.2.2.2.2.2.2.1, (mConnNew a0).2.2.2.2.2.2.2.2.2.2.2.2.2.1, (wMarkConn (mConnNew a0) 1).1.2.2.2.2.2.2.2.2.2.2.2.2.2.2.1, (mConnNew a0).2.2.2.2.2.2.2.2.2.2.2.2.2.2.2.1, (mConnNew a0).2.2.2.2.2.2.2.2.2.2.2.2.2.2.2.2.1, (mConnNew a0).2.2.2.2.2.2.2.2.2.2.2.2.2.2.2.2.2.1, (mConnNew a0).2.2.2.2.2.2.2.2.2.2.2.2.2.2.2.2.2.2.1, (mConnNew a0).2.2.2.2.2.2.2.2.2.2.2.2.2.2.2.2.2.2.2.1, (mConnNew a0).2.2.2.2.2.2.2.2.2.2.2.2.2.2.2.2.2.2.2.2.1, (mConnNew a0).2.2.2.2.2.2.2.2.2.2.2.2.2.2.2.2.2.2.2.2.2.1, (mConnNew a0).2.2.2.2.2.2.2.2.2.2.2.2.2.2.2.2.2.2.2.2.2.2.1, (mConnNew a0).2.2.2.2.2.2.2.2.2.2.2.2.2.2.2.2.2.2.2.2.2.2.2.1, (mConnNew a0).2.2.2.2.2.2.2.2.2.2.2.2.2.2.2.2.2.2.2.2.2.2.2.2.1, (wMarkConn (mConnNew a0) 1).1.2.2.2.2.2.2.2.2.2.2.2.2.2.2.2.2.2.2.2.2.2.2.2.2.2.1, (mConnNew a0).2.2.2.2.2.2.2.2.2.2.2.2.2.2.2.2.2.2.2.2.2.2.2.2.2.2.1, (wMarkConn (mConnNew a0) 1).1.2.2.2.2.2.2.2.2.2.2.2.2.2.2.2.2.2.2.2.2.2.2.2.2.2.2.2) 1) ≠ (mMarkConn (mConnNew a0) 1) →
                (Q false)) ∧
              (¬ ((mHeldConn ((mConnNew a0).1, (mConnNew a0).2.1, (mConnNew a0).2.2.1, (mConnNew a0).2.2.2.1, (mConnNew a0).2.2.2.2.1, (wMarkConn (mConnNew a0) 1).1.2.2.2.2.2.1, (mConnNew a0).2.2.2.2.2.2.1, (mConnNew a0).2.2.2.2.2.2.2.1, (mConnNew a0).2.2.2.2.2.2.2.2.1, (wMarkConn (mConnNew a0) 1).1.2.2.2.2.2.2.2.2.2.1, (mConnNew a0).2.2.2.2.2.2.2.2.2.2.1, (mConnNew a0).2.2.2.2.2.2.2.2.2.2.2.1, (wMarkConn (mConnNew a0) 1).1.2.2.2.2.2.2.2.2.2.2.2.2.1, (mConnNew a0).2.2.2.2.2.2.2.2.2.2.2.2.2.1, (wMarkConn (mConnNew a0) 1).1.2.2.2.2.2.2.2.2.2.2.2.2.2.2.1, (mConnNew a0).2.2.2.2.2.2.2.2.2.2.2.2.2.2.2.1, (mConnNew a0).2.2.2.2.2.2.2.2.2.2.2.2.2.2.2.2.1, (mConnNew a0).2.2.2.2.2.2.2.2.2.2.2.2.2.2.2.2.2.1, (mConnNew a0).2.2.2.2.2.2.2.2.2.2.2.2.2.2.2.2.2.2.1, (mConnNew a0).2.2.2.2.2.2.2.2.2.2.2.2.2.2.2.2.2.2.2.1, (mConnNew a0).2.2.2.2.2.2.2.2.2.2.2.2.2.2.2.2.2.2.2.2.1, (mConnNew a0).2.2.2.2.2.2.2.2.2.2.2.2.2.2.2.2.2.2.2.2.2.1, (mConnNew a0).2.2.2.2.2.2.2.2.2.2.2.2.2.2.2.2.2.2.2.2.2.2.1, (mConnNew a0).2.2.2.2.2.2.2.2.2.2.2.2.2.2.2.2.2.2.2.2.2.2.2.1, (mConnNew a0).2.2.2.2.2.2.2.2.2.2.2.2.2.2.2.2.2.2.2.2.2.2.2.2.1, (wMarkConn (mConnNew a0) 1).1.2.2.2.2.2.2.2.2.2.2.2.2.2.2.2.2.2.2.2.2.2.2.2.2.2.1, (mConnNew a0).2.2.2.2.2.2.2.2.2.2.2.2.2.2.2.2.2.2.2.2.2.2.2.2.2.2.1, (wMarkConn (mConnNew a0) 1).1.2.2.2.2.2.2.2.2.2.2.2.2.2.2.2.2.2.2.2.2.2.2.2.2.2.2.2) 1) ≠ (mMarkConn (mConnNew a0) 1)) →
                (Q true))))))))

theorem spec_ConnNew_ok (a0 : S) (h : pConnNew a0) : s_spec_ConnNew a0 (fun r => r = mConnNew a0) := by
  refine ⟨fun h1 => ?_, fun h1 => ?_⟩
  · unfold mConnNew; rw [if_pos h1]; rfl
  · unfold mConnNew; rw [if_neg h1]; rfl
theorem impl_ConnNew_ok (a0 : S) (h : pConnNew a0) : s_impl_ConnNew a0 (fun r => r = mConnNew a0) := by
  refine ⟨fun h1 => ?_, fun h1 => ?_⟩
  · unfold mConnNew; rw [if_pos h1]; rfl
  · unfold mConnNew; rw [if_neg h1]; rfl
theorem mk_none (k : Int) (h0 : 0 ≤ k) (h1 : k ≤ 1099511627776) : pMk ([] : List Fld).length k := ⟨h0, h1, by simp⟩
theorem conn_mark (s : S) : pMarkConn (connOf s) 1 := by
  have m : pMk ([] : List Fld).length 1 := mk_none 1 (by omega) (by omega)
  exact ⟨m, m, ⟨show (0 : Int) ≤ 1 by decide, show (1 : Int) + ((2 * 0 + 2 * 0 : Nat) : Int) ≤ 1099511627776 by decide⟩, m, rfl, rfl, rfl⟩
theorem conn_held (s : S) : pHeldConn (connOf s) 1 := by
  have m : pMk ([] : List Fld).length 1 := mk_none 1 (by omega) (by omega)
  have n1 : ¬ ((1 : Int) < 0) := by decide
  refine ⟨m, fun h => absurd h n1, fun _ => ⟨m, fun h => absurd h n1, fun _ => ⟨⟨⟨show (0 : Int) ≤ 1 by decide, show (1 : Int) + ((2 * 0 + 2 * 0 : Nat) : Int) ≤ 1099511627776 by decide⟩, rfl⟩, fun h => absurd h n1, fun _ => ⟨m, fun h => absurd h n1, fun _ => ⟨rfl, fun h => absurd h n1, fun _ => rfl⟩⟩⟩⟩⟩
theorem connNew_or (s : S) : ∃ t, mConnNew s = connOf t ∧ (t = s ∨ t = lit []) := by
  unfold mConnNew
  split
  · exact ⟨_, rfl, .inr rfl⟩
  · exact ⟨_, rfl, .inl rfl⟩
def p_FnExactConnNew (a0 : S) : Prop := wd a0
theorem connOf_wd {s : S} (h : wd s) : wd (connOf s) := by
  have l0 : wd (lit []) := by show (lit []).size ≤ maxLen; decide
  have n0 : wd ([] : List Fld) := ⟨by simp [maxLen], fun i x hx => by simp [gt] at hx⟩
  have n1 : wd ([] : List Tld) := ⟨by simp [maxLen], fun i x hx => by simp [gt] at hx⟩
  have i0 : wd (0 : Int) := by show (Lit.int .i64 0).wf = true; decide
  have i1 : wd (-1 : Int) := by show (Lit.int .i64 (-1)).wf = true; decide
  have b0 : wd false := trivial
  exact ⟨i0, h, i0, l0, l0, n0, l0, l0, l0, n0, l0, l0, n0, i0, n0, l0, i0, i0, b0, i1, i0, i0, i0, b0, i0, n0, l0, n1⟩
theorem laws_FnExactConnNew_ok (a0 : S) (h : p_FnExactConnNew a0) : s_laws_FnExactConnNew a0 (fun r => r = true) := by
  have w0 : wd a0 := h
  obtain ⟨t, ht, ht2⟩ := connNew_or a0
  have wt : wd t := by
    rcases ht2 with rfl | rfl
    · exact w0
    · show (lit []).size ≤ maxLen; decide
  have pw : wd (mConnNew a0) := by rw [ht]; exact connOf_wd wt
  have hm : pMarkConn (mConnNew a0) 1 := by rw [ht]; exact conn_mark t
  have hh : pHeldConn (mConnNew a0) 1 := by rw [ht]; exact conn_held t
  have eqs : ∀ {α : Type} [DecidableEq α] (x : α), ¬ (eqF x x = true) → False := fun x hne => hne (eqF_iff.2 rfl)
  refine ⟨fun _ => rfl, fun _ => ⟨trivial, trivial, pw, fun hne => (eqs _ hne).elim, fun _ => ⟨hm, hh, fun hl => absurd hl (by show ¬ ((1 : Int) < 0); omega), fun _ => ⟨fun hne => absurd rfl hne, fun _ => ⟨trivial, pw, fun hne => (eqs _ hne).elim, fun _ => ⟨hh, fun hl => absurd hl (by show ¬ ((1 : Int) < 0); omega), fun _ => ⟨fun hne => absurd rfl hne, fun _ => rfl⟩⟩⟩⟩⟩⟩⟩
end Go.Ev
end

section
set_option linter.unusedVariables false
namespace Go.Proofs.Ytiefookbpgdmoaa.ApC
open Go Go.Ev Go.Proofs Go.RowKit
abbrev ls3 : List L := [.int .i64]
abbrev ls9 : List L := [.str]
abbrev ls29 : List L := [.list 66 [.str, .str]]
abbrev ls31 : List L := [.str, .str, .list 66 [.str, .str], .str]
abbrev ls35 : List L := [.int .i64, .list 66 [.str, .str], .str]
abbrev ls45 : List L := [.str, .list 66 [.str, .str], .int .i64, .list 66 [.str, .str], .str, .int .i64, .int .i64]
abbrev ls46 : List L := [.list 98 [.int .i64, .int .i64, .list 66 [.str, .str], .str]]
abbrev ls48 : List L := [.int .i64, .str, .int .i64, .str, .str, .list 66 [.str, .str], .str, .str, .str, .list 66 [.str, .str], .str, .str, .list 66 [.str, .str], .int .i64, .list 66 [.str, .str], .str, .int .i64, .int .i64, .bool, .int .i64, .int .i64, .int .i64, .int .i64, .bool, .int .i64, .list 66 [.str, .str], .str, .list 98 [.int .i64, .int .i64, .list 66 [.str, .str], .str]]
abbrev ls66 : List L := [.str, .str]
abbrev ls98 : List L := [.int .i64, .int .i64, .list 66 [.str, .str], .str]
def tt : List (Nat × TI) := [
  (2, ⟨.sc, [.int .i64]⟩),
  (3, ⟨.sc, [.int .i64]⟩),
  (4, ⟨.sc, [.bool]⟩),
  (5, ⟨.sc, [.int .u8]⟩),
  (6, ⟨.sc, [.int .u8]⟩),
  (7, ⟨.st [(0, [.int .i64]), (1, [.int .i64]), (2, [.bool]), (3, [.int .u8])], [.int .i64, .int .i64, .bool, .int .u8]⟩),
  (8, ⟨.st [(0, [.int .i64]), (1, [.int .i64]), (2, [.bool]), (3, [.int .u8])], [.int .i64, .int .i64, .bool, .int .u8]⟩),
  (9, ⟨.sc, [.str]⟩),
  (10, ⟨.sc, [.str]⟩),
  (11, ⟨.sc, [.str]⟩),
  (12, ⟨.sc, [.int .u64]⟩),
  (13, ⟨.st [(0, [.str]), (1, [.int .u64])], [.str, .int .u64]⟩),
  (14, ⟨.st [(0, [.str]), (1, [.int .u64])], [.str, .int .u64]⟩),
  (21, ⟨.sc, [.int .i32]⟩),
  (22, ⟨.sl 88 [.str, .str] 32, [.list 88 [.str, .str]]⟩),
  (23, ⟨.st [(0, [.str]), (1, [.str]), (2, [.list 88 [.str, .str]]), (3, [.str])], [.str, .str, .list 88 [.str, .str], .str]⟩),
  (24, ⟨.st [(0, [.str]), (1, [.str]), (2, [.list 88 [.str, .str]]), (3, [.str])], [.str, .str, .list 88 [.str, .str], .str]⟩),
  (25, ⟨.st [(0, [.int .i64]), (1, [.list 88 [.str, .str]]), (2, [.str])], [.int .i64, .list 88 [.str, .str], .str]⟩),
  (26, ⟨.st [(0, [.int .i64]), (1, [.list 88 [.str, .str]]), (2, [.str])], [.int .i64, .list 88 [.str, .str], .str]⟩),
  (29, ⟨.sl 66 [.str, .str] 32, [.list 66 [.str, .str]]⟩),
  (30, ⟨.st [(0, [.str]), (1, [.str]), (2, [.list 66 [.str, .str]]), (3, [.str])], [.str, .str, .list 66 [.str, .str], .str]⟩),
  (31, ⟨.st [(0, [.str]), (1, [.str]), (2, [.list 66 [.str, .str]]), (3, [.str])], [.str, .str, .list 66 [.str, .str], .str]⟩),
  (34, ⟨.st [(0, [.int .i64]), (1, [.list 66 [.str, .str]]), (2, [.str])], [.int .i64, .list 66 [.str, .str], .str]⟩),
  (35, ⟨.st [(0, [.int .i64]), (1, [.list 66 [.str, .str]]), (2, [.str])], [.int .i64, .list 66 [.str, .str], .str]⟩),
  (44, ⟨.st [(0, [.str]), (1, [.list 66 [.str, .str]]), (2, [.int .i64, .list 66 [.str, .str], .str]), (5, [.int .i64]), (6, [.int .i64])], [.str, .list 66 [.str, .str], .int .i64, .list 66 [.str, .str], .str, .int .i64, .int .i64]⟩),
  (45, ⟨.st [(0, [.str]), (1, [.list 66 [.str, .str]]), (2, [.int .i64, .list 66 [.str, .str], .str]), (5, [.int .i64]), (6, [.int .i64])], [.str, .list 66 [.str, .str], .int .i64, .list 66 [.str, .str], .str, .int .i64, .int .i64]⟩),
  (46, ⟨.sl 98 [.int .i64, .int .i64, .list 66 [.str, .str], .str] 56, [.list 98 [.int .i64, .int .i64, .list 66 [.str, .str], .str]]⟩),
  (47, ⟨.st [(0, [.int .i64]), (1, [.str]), (2, [.int .i64]), (3, [.str, .str, .list 66 [.str, .str], .str]), (7, [.str, .str, .list 66 [.str, .str], .str]), (11, [.str, .list 66 [.str, .str], .int .i64, .list 66 [.str, .str], .str, .int .i64, .int .i64]), (18, [.bool]), (19, [.int .i64]), (20, [.int .i64]), (21, [.int .i64]), (22, [.int .i64]), (23, [.bool]), (24, [.int .i64, .list 66 [.str, .str], .str]), (27, [.list 98 [.int .i64, .int .i64, .list 66 [.str, .str], .str]])], [.int .i64, .str, .int .i64, .str, .str, .list 66 [.str, .str], .str, .str, .str, .list 66 [.str, .str], .str, .str, .list 66 [.str, .str], .int .i64, .list 66 [.str, .str], .str, .int .i64, .int .i64, .bool, .int .i64, .int .i64, .int .i64, .int .i64, .bool, .int .i64, .list 66 [.str, .str], .str, .list 98 [.int .i64, .int .i64, .list 66 [.str, .str], .str]]⟩),
  (48, ⟨.st [(0, [.int .i64]), (1, [.str]), (2, [.int .i64]), (3, [.str, .str, .list 66 [.str, .str], .str]), (7, [.str, .str, .list 66 [.str, .str], .str]), (11, [.str, .list 66 [.str, .str], .int .i64, .list 66 [.str, .str], .str, .int .i64, .int .i64]), (18, [.bool]), (19, [.int .i64]), (20, [.int .i64]), (21, [.int .i64]), (22, [.int .i64]), (23, [.bool]), (24, [.int .i64, .list 66 [.str, .str], .str]), (27, [.list 98 [.int .i64, .int .i64, .list 66 [.str, .str], .str]])], [.int .i64, .str, .int .i64, .str, .str, .list 66 [.str, .str], .str, .str, .str, .list 66 [.str, .str], .str, .str, .list 66 [.str, .str], .int .i64, .list 66 [.str, .str], .str, .int .i64, .int .i64, .bool, .int .i64, .int .i64, .int .i64, .int .i64, .bool, .int .i64, .list 66 [.str, .str], .str, .list 98 [.int .i64, .int .i64, .list 66 [.str, .str], .str]]⟩),
  (53, ⟨.sl 79 [.int .i64, .int .i64, .list 126 [.str, .list 66 [.str, .str], .int .i64, .list 66 [.str, .str], .str, .int .i64, .int .i64, .bool], .int .i64] 48, [.list 79 [.int .i64, .int .i64, .list 126 [.str, .list 66 [.str, .str], .int .i64, .list 66 [.str, .str], .str, .int .i64, .int .i64, .bool], .int .i64]]⟩),
  (54, ⟨.sl 105 [.str, .int .i64] 24, [.list 105 [.str, .int .i64]]⟩),
  (55, ⟨.st [(0, [.list 79 [.int .i64, .int .i64, .list 126 [.str, .list 66 [.str, .str], .int .i64, .list 66 [.str, .str], .str, .int .i64, .int .i64, .bool], .int .i64]]), (1, [.list 105 [.str, .int .i64]])], [.list 79 [.int .i64, .int .i64, .list 126 [.str, .list 66 [.str, .str], .int .i64, .list 66 [.str, .str], .str, .int .i64, .int .i64, .bool], .int .i64], .list 105 [.str, .int .i64]]⟩),
  (56, ⟨.st [(0, [.list 79 [.int .i64, .int .i64, .list 126 [.str, .list 66 [.str, .str], .int .i64, .list 66 [.str, .str], .str, .int .i64, .int .i64, .bool], .int .i64]]), (1, [.list 105 [.str, .int .i64]])], [.list 79 [.int .i64, .int .i64, .list 126 [.str, .list 66 [.str, .str], .int .i64, .list 66 [.str, .str], .str, .int .i64, .int .i64, .bool], .int .i64], .list 105 [.str, .int .i64]]⟩),
  (65, ⟨.st [(0, [.str]), (1, [.str])], [.str, .str]⟩),
  (66, ⟨.st [(0, [.str]), (1, [.str])], [.str, .str]⟩),
  (77, ⟨.sl 126 [.str, .list 66 [.str, .str], .int .i64, .list 66 [.str, .str], .str, .int .i64, .int .i64, .bool] 112, [.list 126 [.str, .list 66 [.str, .str], .int .i64, .list 66 [.str, .str], .str, .int .i64, .int .i64, .bool]]⟩),
  (78, ⟨.st [(0, [.int .i64]), (1, [.int .i64]), (2, [.list 126 [.str, .list 66 [.str, .str], .int .i64, .list 66 [.str, .str], .str, .int .i64, .int .i64, .bool]]), (3, [.int .i64])], [.int .i64, .int .i64, .list 126 [.str, .list 66 [.str, .str], .int .i64, .list 66 [.str, .str], .str, .int .i64, .int .i64, .bool], .int .i64]⟩),
  (79, ⟨.st [(0, [.int .i64]), (1, [.int .i64]), (2, [.list 126 [.str, .list 66 [.str, .str], .int .i64, .list 66 [.str, .str], .str, .int .i64, .int .i64, .bool]]), (3, [.int .i64])], [.int .i64, .int .i64, .list 126 [.str, .list 66 [.str, .str], .int .i64, .list 66 [.str, .str], .str, .int .i64, .int .i64, .bool], .int .i64]⟩),
  (88, ⟨.st [(0, [.str]), (1, [.str])], [.str, .str]⟩),
  (92, ⟨.sl 9 [.str] 16, [.list 9 [.str]]⟩),
  (97, ⟨.st [(0, [.int .i64]), (1, [.int .i64, .list 66 [.str, .str], .str])], [.int .i64, .int .i64, .list 66 [.str, .str], .str]⟩),
  (98, ⟨.st [(0, [.int .i64]), (1, [.int .i64, .list 66 [.str, .str], .str])], [.int .i64, .int .i64, .list 66 [.str, .str], .str]⟩),
  (99, ⟨.sc, [.int .u64]⟩),
  (104, ⟨.st [(0, [.str]), (1, [.int .i64])], [.str, .int .i64]⟩),
  (105, ⟨.st [(0, [.str]), (1, [.int .i64])], [.str, .int .i64]⟩),
  (109, ⟨.sl 5 [.int .u8] 1, [.list 5 [.int .u8]]⟩),
  (118, ⟨.sc, [.int .u32]⟩),
  (121, ⟨.sc, [.int .u64]⟩),
  (125, ⟨.st [(0, [.str, .list 66 [.str, .str], .int .i64, .list 66 [.str, .str], .str, .int .i64, .int .i64]), (7, [.bool])], [.str, .list 66 [.str, .str], .int .i64, .list 66 [.str, .str], .str, .int .i64, .int .i64, .bool]⟩),
  (126, ⟨.st [(0, [.str, .list 66 [.str, .str], .int .i64, .list 66 [.str, .str], .str, .int .i64, .int .i64]), (7, [.bool])], [.str, .list 66 [.str, .str], .int .i64, .list 66 [.str, .str], .str, .int .i64, .int .i64, .bool]⟩),
  (138, ⟨.sc, [.int .u8]⟩),
  (139, ⟨.sc, [.int .u8]⟩),
  (141, ⟨.sc, [.int .i32]⟩),
  (142, ⟨.sc, [.int .i32]⟩)]
theorem ttOk : ttB Try.prog tt = true := by kernel_rfl
theorem mixOk : Try.prog.follows .mixedOrders = true := by kernel_rfl
def J (_ : World) : Prop := True
theorem J_below {w w' : World} (h : J w) (_ : Below w.heap.size w w') : J w' := trivial
def Jn (n : Nat) (w : World) : Prop := ∃ w0 : World, w0.heap.size = n ∧ J w0 ∧ Below n w0 w
theorem Jn_J {n : Nat} {w : World} (h : Jn n w) : J w := by
  obtain ⟨w0, rfl, h1, h2⟩ := h
  exact J_below h1 h2
theorem Jn_below {n : Nat} {w w' : World} (h : Jn n w) (hb : Below n w w') : Jn n w' := by
  obtain ⟨w0, h0, h1, h2⟩ := h
  exact ⟨w0, h0, h1, h2.trans hb⟩
theorem Jn_of {w w' : World} (h : J w) (hb : Below w.heap.size w w') : Jn w.heap.size w' := ⟨w, rfl, h, hb⟩
noncomputable def E21 : Env := { tt, eqs := [], cts := [] }
theorem ok21 : EnvOk Try.prog E21 := ⟨ttOk, by kernel_rfl, rfl, mixOk⟩
theorem cs21 (w0 : World) (hJ : J w0) : EnvCts Try.prog E21 w0 w0.heap.size := by
  refine ⟨fun c hc => ?_, fun c hc => ?_⟩
  · cases hc
  · cases hc
noncomputable def ct21 : Ct := { f := 21, ps := [.v false .ro ls9], rs := [(true, ls48)], shared := false, pre := fun (x : S) => pConnNew x, F := fun (x : S) => mConnNew x }
theorem law21 : ∀ x : S, pConnNew x → s_spec_ConnNew x (fun r => r = mConnNew x) := fun x h => spec_ConnNew_ok x h
theorem all21 (w : World) (hJ : J w) : CtAt Try.prog ct21 w :=
  ct_by ok21 (cs21 w hJ) Try.func21 (by kernel_rfl) (H := (hint [])) law21 (by kernel_rfl)
noncomputable def E22 : Env := { tt, eqs := [], cts := [], deep := true }
theorem ok22 : EnvOk Try.prog E22 := ⟨ttOk, by kernel_rfl, rfl, mixOk⟩
theorem cs22 (w0 : World) (hJ : J w0) : EnvCts Try.prog E22 w0 w0.heap.size := by
  refine ⟨fun c hc => ?_, fun c hc => ?_⟩
  · cases hc
  · cases hc
noncomputable def ct22 : Ct := { f := 22, ps := [.v false .ro ls9], rs := [(true, ls48)], shared := false, pre := fun (x : S) => pConnNew x, F := fun (x : S) => mConnNew x, deep := true }
theorem law22 : ∀ x : S, pConnNew x → s_impl_ConnNew x (fun r => r = mConnNew x) := fun x h => impl_ConnNew_ok x h
theorem all22 (w : World) (hJ : J w) : CtAt Try.prog ct22 w :=
  ct_by ok22 (cs22 w hJ) Try.func22 (by kernel_rfl) (H := (hint [])) law22 (by kernel_rfl)
noncomputable def E68 : Env := { tt, eqs := [], cts := [] }
theorem ok68 : EnvOk Try.prog E68 := ⟨ttOk, by kernel_rfl, rfl, mixOk⟩
theorem cs68 (w0 : World) (hJ : J w0) : EnvCts Try.prog E68 w0 w0.heap.size := by
  refine ⟨fun c hc => ?_, fun c hc => ?_⟩
  · cases hc
  · cases hc
noncomputable def ct68 : Ct := { f := 68, ps := [.v true .ro ls66, .v true .ro ls66], rs := [(false, [.bool])], shared := false, pre := fun (q : Fld × Fld) => pEq q.1 q.2, F := fun (q : Fld × Fld) => eqF q.1 q.2 }
def st68 : List (EqStep Fld) := [.ne (fun (x y : Fld) => x.1 ≠ y.1), .ne (fun (x y : Fld) => x.2 ≠ y.2)]
def mk68 (a0 : S) (a1 : S) : Fld := (a0, a1)
theorem a68 (x y : Fld) : eqAll x y st68 ↔ x = y := by
  constructor
  · rintro ⟨h0, h1, -⟩
    have h0 : x.1 = y.1 := Classical.byContradiction h0
    have h1 : x.2 = y.2 := Classical.byContradiction h1
    show mk68 (x.1) (x.2) = mk68 (y.1) (y.2)
    rw [h0, h1]
    all_goals rfl
  · rintro rfl
    exact ⟨fun h => h rfl, fun h => h rfl, trivial⟩
theorem w68 (x y : Fld) (h : wd x) : eqFine x y st68 := by
  first | simp only [wd_pair] at h | skip
  simp only [eqFine, st68, wd_pair]
  all_goals simp only [h, and_self]
theorem law68 : ∀ q : Fld × Fld, pEq q.1 q.2 → eqSt q.1 q.2 st68 (fun r => r = eqF q.1 q.2) := fun q hq => eqSt_holds q.1 q.2 st68 (w68 q.1 q.2 hq) (eqF_iff.trans (a68 q.1 q.2).symm)
theorem all68 (w : World) (hJ : J w) : CtAt Try.prog ct68 w :=
  ct_by ok68 (cs68 w hJ) Try.func68 (by kernel_rfl) (H := (hint [])) law68 (by kernel_rfl)
noncomputable def E37 : Env := { tt, eqs := [], cts := [ct68] }
theorem ok37 : EnvOk Try.prog E37 := ⟨ttOk, by kernel_rfl, rfl, mixOk⟩
theorem cs37 (w0 : World) (hJ : J w0) : EnvCts Try.prog E37 w0 w0.heap.size := by
  refine ⟨fun c hc => ?_, fun c hc => ?_⟩
  · rcases List.mem_cons.1 hc with rfl | hc
    · exact fun w hb => all68 w (J_below hJ hb)
    cases hc
  · cases hc
noncomputable def ct37 : Ct := { f := 37, ps := [.v false .ro ls29, .v false .ro ls29], rs := [(false, [.bool])], shared := false, pre := fun (q : (List Fld) × (List Fld)) => pEq q.1 q.2, F := fun (q : (List Fld) × (List Fld)) => eqF q.1 q.2 }
theorem law37 : ∀ q : (List Fld) × (List Fld), pEq q.1 q.2 → eqS (α := Fld) Dft.dft (fun a b => pEq a b) (fun a b => eqF a b) q.1 q.2 (fun r => r = eqF q.1 q.2) := fun q hq => eqS_holds (α := Fld) Dft.dft (fun a b => pEq a b) (fun a b => eqF a b) q.1 q.2 hq.1 (fun i a _ h => hq.2 i a h) (fun _ _ => eqF_iff) eqF_iff
theorem all37 (w : World) (hJ : J w) : CtAt Try.prog ct37 w :=
  ct_by ok37 (cs37 w hJ) Try.func37 (by kernel_rfl) (H := (hint [(4, [.val 5 (.int .i64)])])) law37 (by kernel_rfl)
noncomputable def E13 : Env := { tt, eqs := [], cts := [ct37] }
theorem ok13 : EnvOk Try.prog E13 := ⟨ttOk, by kernel_rfl, rfl, mixOk⟩
theorem cs13 (w0 : World) (hJ : J w0) : EnvCts Try.prog E13 w0 w0.heap.size := by
  refine ⟨fun c hc => ?_, fun c hc => ?_⟩
  · rcases List.mem_cons.1 hc with rfl | hc
    · exact fun w hb => all37 w (J_below hJ hb)
    cases hc
  · cases hc
noncomputable def ct13 : Ct := { f := 13, ps := [.v true .ro ls31, .v true .ro ls31], rs := [(false, [.bool])], shared := false, pre := fun (q : Req × Req) => pEq q.1 q.2, F := fun (q : Req × Req) => eqF q.1 q.2 }
def st13 : List (EqStep Req) := [.ne (fun (x y : Req) => x.1 ≠ y.1), .ne (fun (x y : Req) => x.2.1 ≠ y.2.1), .call (fun (x _ : Req) => wd (x.2.2.1 : (List Fld))) (fun (x y : Req) => eqF (x.2.2.1 : (List Fld)) y.2.2.1), .ne (fun (x y : Req) => x.2.2.2 ≠ y.2.2.2)]
def mk13 (a0 : S) (a1 : S) (a2 : (List Fld)) (a3 : S) : Req := (a0, a1, a2, a3)
theorem a13 (x y : Req) : eqAll x y st13 ↔ x = y := by
  constructor
  · rintro ⟨h0, h1, h2, h3, -⟩
    have h0 : x.1 = y.1 := Classical.byContradiction h0
    have h1 : x.2.1 = y.2.1 := Classical.byContradiction h1
    have h2 : (x.2.2.1 : (List Fld)) = y.2.2.1 := eqF_iff.1 h2
    have h3 : x.2.2.2 = y.2.2.2 := Classical.byContradiction h3
    show mk13 (x.1) (x.2.1) (x.2.2.1) (x.2.2.2) = mk13 (y.1) (y.2.1) (y.2.2.1) (y.2.2.2)
    rw [h0, h1, h2, h3]
    all_goals rfl
  · rintro rfl
    exact ⟨fun h => h rfl, fun h => h rfl, eqF_iff.2 rfl, fun h => h rfl, trivial⟩
theorem w13 (x y : Req) (h : wd x) : eqFine x y st13 := by
  first | simp only [wd_pair] at h | skip
  simp only [eqFine, st13, wd_pair]
  all_goals simp only [h, and_self]
theorem law13 : ∀ q : Req × Req, pEq q.1 q.2 → eqSt q.1 q.2 st13 (fun r => r = eqF q.1 q.2) := fun q hq => eqSt_holds q.1 q.2 st13 (w13 q.1 q.2 hq) (eqF_iff.trans (a13 q.1 q.2).symm)
theorem all13 (w : World) (hJ : J w) : CtAt Try.prog ct13 w :=
  ct_by ok13 (cs13 w hJ) Try.func13 (by kernel_rfl) (H := (hint [])) law13 (by kernel_rfl)
noncomputable def E14 : Env := { tt, eqs := [], cts := [ct37] }
theorem ok14 : EnvOk Try.prog E14 := ⟨ttOk, by kernel_rfl, rfl, mixOk⟩
theorem cs14 (w0 : World) (hJ : J w0) : EnvCts Try.prog E14 w0 w0.heap.size := by
  refine ⟨fun c hc => ?_, fun c hc => ?_⟩
  · rcases List.mem_cons.1 hc with rfl | hc
    · exact fun w hb => all37 w (J_below hJ hb)
    cases hc
  · cases hc
noncomputable def ct14 : Ct := { f := 14, ps := [.v true .ro ls35, .v true .ro ls35], rs := [(false, [.bool])], shared := false, pre := fun (q : Rsp × Rsp) => pEq q.1 q.2, F := fun (q : Rsp × Rsp) => eqF q.1 q.2 }
def st14 : List (EqStep Rsp) := [.ne (fun (x y : Rsp) => x.1 ≠ y.1), .call (fun (x _ : Rsp) => wd (x.2.1 : (List Fld))) (fun (x y : Rsp) => eqF (x.2.1 : (List Fld)) y.2.1), .ne (fun (x y : Rsp) => x.2.2 ≠ y.2.2)]
def mk14 (a0 : Int) (a1 : (List Fld)) (a2 : S) : Rsp := (a0, a1, a2)
theorem a14 (x y : Rsp) : eqAll x y st14 ↔ x = y := by
  constructor
  · rintro ⟨h0, h1, h2, -⟩
    have h0 : x.1 = y.1 := Classical.byContradiction h0
    have h1 : (x.2.1 : (List Fld)) = y.2.1 := eqF_iff.1 h1
    have h2 : x.2.2 = y.2.2 := Classical.byContradiction h2
    show mk14 (x.1) (x.2.1) (x.2.2) = mk14 (y.1) (y.2.1) (y.2.2)
    rw [h0, h1, h2]
    all_goals rfl
  · rintro rfl
    exact ⟨fun h => h rfl, eqF_iff.2 rfl, fun h => h rfl, trivial⟩
theorem w14 (x y : Rsp) (h : wd x) : eqFine x y st14 := by
  first | simp only [wd_pair] at h | skip
  simp only [eqFine, st14, wd_pair]
  all_goals simp only [h, and_self]
theorem law14 : ∀ q : Rsp × Rsp, pEq q.1 q.2 → eqSt q.1 q.2 st14 (fun r => r = eqF q.1 q.2) := fun q hq => eqSt_holds q.1 q.2 st14 (w14 q.1 q.2 hq) (eqF_iff.trans (a14 q.1 q.2).symm)
theorem all14 (w : World) (hJ : J w) : CtAt Try.prog ct14 w :=
  ct_by ok14 (cs14 w hJ) Try.func14 (by kernel_rfl) (H := (hint [])) law14 (by kernel_rfl)
noncomputable def E44 : Env := { tt, eqs := [], cts := [ct37, ct14] }
theorem ok44 : EnvOk Try.prog E44 := ⟨ttOk, by kernel_rfl, rfl, mixOk⟩
theorem cs44 (w0 : World) (hJ : J w0) : EnvCts Try.prog E44 w0 w0.heap.size := by
  refine ⟨fun c hc => ?_, fun c hc => ?_⟩
  · rcases List.mem_cons.1 hc with rfl | hc
    · exact fun w hb => all37 w (J_below hJ hb)
    rcases List.mem_cons.1 hc with rfl | hc
    · exact fun w hb => all14 w (J_below hJ hb)
    cases hc
  · cases hc
noncomputable def ct44 : Ct := { f := 44, ps := [.v true .ro ls45, .v true .ro ls45], rs := [(false, [.bool])], shared := false, pre := fun (q : Sto × Sto) => pEq q.1 q.2, F := fun (q : Sto × Sto) => eqF q.1 q.2 }
def st44 : List (EqStep Sto) := [.ne (fun (x y : Sto) => x.1 ≠ y.1), .call (fun (x _ : Sto) => wd (x.2.1 : (List Fld))) (fun (x y : Sto) => eqF (x.2.1 : (List Fld)) y.2.1), .call (fun (x _ : Sto) => wd ((x.2.2.1, x.2.2.2.1, x.2.2.2.2.1) : Rsp)) (fun (x y : Sto) => eqF ((x.2.2.1, x.2.2.2.1, x.2.2.2.2.1) : Rsp) (y.2.2.1, y.2.2.2.1, y.2.2.2.2.1)), .ne (fun (x y : Sto) => x.2.2.2.2.2.1 ≠ y.2.2.2.2.2.1), .ne (fun (x y : Sto) => x.2.2.2.2.2.2 ≠ y.2.2.2.2.2.2)]
def mk44 (a0 : S) (a1 : (List Fld)) (a2 : Rsp) (a3 : Int) (a4 : Int) : Sto := (a0, a1, a2.1, a2.2.1, a2.2.2, a3, a4)
theorem a44 (x y : Sto) : eqAll x y st44 ↔ x = y := by
  constructor
  · rintro ⟨h0, h1, h2, h3, h4, -⟩
    have h0 : x.1 = y.1 := Classical.byContradiction h0
    have h1 : (x.2.1 : (List Fld)) = y.2.1 := eqF_iff.1 h1
    have h2 : ((x.2.2.1, x.2.2.2.1, x.2.2.2.2.1) : Rsp) = (y.2.2.1, y.2.2.2.1, y.2.2.2.2.1) := eqF_iff.1 h2
    have h3 : x.2.2.2.2.2.1 = y.2.2.2.2.2.1 := Classical.byContradiction h3
    have h4 : x.2.2.2.2.2.2 = y.2.2.2.2.2.2 := Classical.byContradiction h4
    show mk44 (x.1) (x.2.1) ((x.2.2.1, x.2.2.2.1, x.2.2.2.2.1)) (x.2.2.2.2.2.1) (x.2.2.2.2.2.2) = mk44 (y.1) (y.2.1) ((y.2.2.1, y.2.2.2.1, y.2.2.2.2.1)) (y.2.2.2.2.2.1) (y.2.2.2.2.2.2)
    rw [h0, h1, h2, h3, h4]
    all_goals rfl
  · rintro rfl
    exact ⟨fun h => h rfl, eqF_iff.2 rfl, eqF_iff.2 rfl, fun h => h rfl, fun h => h rfl, trivial⟩
theorem w44 (x y : Sto) (h : wd x) : eqFine x y st44 := by
  first | simp only [wd_pair] at h | skip
  simp only [eqFine, st44, wd_pair]
  all_goals simp only [h, and_self]
theorem law44 : ∀ q : Sto × Sto, pEq q.1 q.2 → eqSt q.1 q.2 st44 (fun r => r = eqF q.1 q.2) := fun q hq => eqSt_holds q.1 q.2 st44 (w44 q.1 q.2 hq) (eqF_iff.trans (a44 q.1 q.2).symm)
theorem all44 (w : World) (hJ : J w) : CtAt Try.prog ct44 w :=
  ct_by ok44 (cs44 w hJ) Try.func44 (by kernel_rfl) (H := (hint [])) law44 (by kernel_rfl)
noncomputable def E70 : Env := { tt, eqs := [], cts := [ct14] }
theorem ok70 : EnvOk Try.prog E70 := ⟨ttOk, by kernel_rfl, rfl, mixOk⟩
theorem cs70 (w0 : World) (hJ : J w0) : EnvCts Try.prog E70 w0 w0.heap.size := by
  refine ⟨fun c hc => ?_, fun c hc => ?_⟩
  · rcases List.mem_cons.1 hc with rfl | hc
    · exact fun w hb => all14 w (J_below hJ hb)
    cases hc
  · cases hc
noncomputable def ct70 : Ct := { f := 70, ps := [.v true .ro ls98, .v true .ro ls98], rs := [(false, [.bool])], shared := false, pre := fun (q : Tld × Tld) => pEq q.1 q.2, F := fun (q : Tld × Tld) => eqF q.1 q.2 }
def st70 : List (EqStep Tld) := [.ne (fun (x y : Tld) => x.1 ≠ y.1), .call (fun (x _ : Tld) => wd (x.2 : Rsp)) (fun (x y : Tld) => eqF (x.2 : Rsp) y.2)]
def mk70 (a0 : Int) (a1 : Rsp) : Tld := (a0, a1.1, a1.2.1, a1.2.2)
theorem a70 (x y : Tld) : eqAll x y st70 ↔ x = y := by
  constructor
  · rintro ⟨h0, h1, -⟩
    have h0 : x.1 = y.1 := Classical.byContradiction h0
    have h1 : (x.2 : Rsp) = y.2 := eqF_iff.1 h1
    show mk70 (x.1) (x.2) = mk70 (y.1) (y.2)
    rw [h0, h1]
    all_goals rfl
  · rintro rfl
    exact ⟨fun h => h rfl, eqF_iff.2 rfl, trivial⟩
theorem w70 (x y : Tld) (h : wd x) : eqFine x y st70 := by
  first | simp only [wd_pair] at h | skip
  simp only [eqFine, st70, wd_pair]
  all_goals simp only [h, and_self]
theorem law70 : ∀ q : Tld × Tld, pEq q.1 q.2 → eqSt q.1 q.2 st70 (fun r => r = eqF q.1 q.2) := fun q hq => eqSt_holds q.1 q.2 st70 (w70 q.1 q.2 hq) (eqF_iff.trans (a70 q.1 q.2).symm)
theorem all70 (w : World) (hJ : J w) : CtAt Try.prog ct70 w :=
  ct_by ok70 (cs70 w hJ) Try.func70 (by kernel_rfl) (H := (hint [])) law70 (by kernel_rfl)
noncomputable def E45 : Env := { tt, eqs := [], cts := [ct70] }
theorem ok45 : EnvOk Try.prog E45 := ⟨ttOk, by kernel_rfl, rfl, mixOk⟩
theorem cs45 (w0 : World) (hJ : J w0) : EnvCts Try.prog E45 w0 w0.heap.size := by
  refine ⟨fun c hc => ?_, fun c hc => ?_⟩
  · rcases List.mem_cons.1 hc with rfl | hc
    · exact fun w hb => all70 w (J_below hJ hb)
    cases hc
  · cases hc
noncomputable def ct45 : Ct := { f := 45, ps := [.v false .ro ls46, .v false .ro ls46], rs := [(false, [.bool])], shared := false, pre := fun (q : (List Tld) × (List Tld)) => pEq q.1 q.2, F := fun (q : (List Tld) × (List Tld)) => eqF q.1 q.2 }
theorem law45 : ∀ q : (List Tld) × (List Tld), pEq q.1 q.2 → eqS (α := Tld) Dft.dft (fun a b => pEq a b) (fun a b => eqF a b) q.1 q.2 (fun r => r = eqF q.1 q.2) := fun q hq => eqS_holds (α := Tld) Dft.dft (fun a b => pEq a b) (fun a b => eqF a b) q.1 q.2 hq.1 (fun i a _ h => hq.2 i a h) (fun _ _ => eqF_iff) eqF_iff
theorem all45 (w : World) (hJ : J w) : CtAt Try.prog ct45 w :=
  ct_by ok45 (cs45 w hJ) Try.func45 (by kernel_rfl) (H := (hint [(4, [.val 5 (.int .i64)])])) law45 (by kernel_rfl)
noncomputable def E23 : Env := { tt, eqs := [], cts := [ct13, ct44, ct14, ct45] }
theorem ok23 : EnvOk Try.prog E23 := ⟨ttOk, by kernel_rfl, rfl, mixOk⟩
theorem cs23 (w0 : World) (hJ : J w0) : EnvCts Try.prog E23 w0 w0.heap.size := by
  refine ⟨fun c hc => ?_, fun c hc => ?_⟩
  · rcases List.mem_cons.1 hc with rfl | hc
    · exact fun w hb => all13 w (J_below hJ hb)
    rcases List.mem_cons.1 hc with rfl | hc
    · exact fun w hb => all44 w (J_below hJ hb)
    rcases List.mem_cons.1 hc with rfl | hc
    · exact fun w hb => all14 w (J_below hJ hb)
    rcases List.mem_cons.1 hc with rfl | hc
    · exact fun w hb => all45 w (J_below hJ hb)
    cases hc
  · cases hc
noncomputable def ct23 : Ct := { f := 23, ps := [.v true .ro ls48, .v true .ro ls48], rs := [(false, [.bool])], shared := false, pre := fun (q : Cnn × Cnn) => pEq q.1 q.2, F := fun (q : Cnn × Cnn) => eqF q.1 q.2 }
def st23 : List (EqStep Cnn) := [.ne (fun (x y : Cnn) => x.1 ≠ y.1), .ne (fun (x y : Cnn) => x.2.1 ≠ y.2.1), .ne (fun (x y : Cnn) => x.2.2.1 ≠ y.2.2.1), .call (fun (x _ : Cnn) => wd ((x.2.2.2.1, x.2.2.2.2.1, x.2.2.2.2.2.1, x.2.2.2.2.2.2.1) : Req)) (fun (x y : Cnn) => eqF ((x.2.2.2.1, x.2.2.2.2.1, x.2.2.2.2.2.1, x.2.2.2.2.2.2.1) : Req) (y.2.2.2.1, y.2.2.2.2.1, y.2.2.2.2.2.1, y.2.2.2.2.2.2.1)), .call (fun (x _ : Cnn) => wd ((x.2.2.2.2.2.2.2.1, x.2.2.2.2.2.2.2.2.1, x.2.2.2.2.2.2.2.2.2.1, x.2.2.2.2.2.2.2.2.2.2.1) : Req)) (fun (x y : Cnn) => eqF ((x.2.2.2.2.2.2.2.1, x.2.2.2.2.2.2.2.2.1, x.2.2.2.2.2.2.2.2.2.1, x.2.2.2.2.2.2.2.2.2.2.1) : Req) (y.2.2.2.2.2.2.2.1, y.2.2.2.2.2.2.2.2.1, y.2.2.2.2.2.2.2.2.2.1, y.2.2.2.2.2.2.2.2.2.2.1)), .call (fun (x _ : Cnn) => wd ((x.2.2.2.2.2.2.2.2.2.2.2.1, x.2.2.2.2.2.2.2.2.2.2.2.2.1, x.2.2.2.2.2.2.2.2.2.2.2.2.2.1, x.2.2.2.2.2.2.2.2.2.2.2.2.2.2.1, x.2.2.2.2.2.2.2.2.2.2.2.2.2.2.2.1, x.2.2.2.2.2.2.2.2.2.2.2.2.2.2.2.2.1, x.2.2.2.2.2.2.2.2.2.2.2.2.2.2.2.2.2.1) : Sto)) (fun (x y : Cnn) => eqF ((x.2.2.2.2.2.2.2.2.2.2.2.1, x.2.2.2.2.2.2.2.2.2.2.2.2.1, x.2.2.2.2.2.2.2.2.2.2.2.2.2.1, x.2.2.2.2.2.2.2.2.2.2.2.2.2.2.1, x.2.2.2.2.2.2.2.2.2.2.2.2.2.2.2.1, x.2.2.2.2.2.2.2.2.2.2.2.2.2.2.2.2.1, x.2.2.2.2.2.2.2.2.2.2.2.2.2.2.2.2.2.1) : Sto) (y.2.2.2.2.2.2.2.2.2.2.2.1, y.2.2.2.2.2.2.2.2.2.2.2.2.1, y.2.2.2.2.2.2.2.2.2.2.2.2.2.1, y.2.2.2.2.2.2.2.2.2.2.2.2.2.2.1, y.2.2.2.2.2.2.2.2.2.2.2.2.2.2.2.1, y.2.2.2.2.2.2.2.2.2.2.2.2.2.2.2.2.1, y.2.2.2.2.2.2.2.2.2.2.2.2.2.2.2.2.2.1)), .ne (fun (x y : Cnn) => x.2.2.2.2.2.2.2.2.2.2.2.2.2.2.2.2.2.2.1 ≠ y.2.2.2.2.2.2.2.2.2.2.2.2.2.2.2.2.2.2.1), .ne (fun (x y : Cnn) => x.2.2.2.2.2.2.2.2.2.2.2.2.2.2.2.2.2.2.2.1 ≠ y.2.2.2.2.2.2.2.2.2.2.2.2.2.2.2.2.2.2.2.1), .ne (fun (x y : Cnn) => x.2.2.2.2.2.2.2.2.2.2.2.2.2.2.2.2.2.2.2.2.1 ≠ y.2.2.2.2.2.2.2.2.2.2.2.2.2.2.2.2.2.2.2.2.1), .ne (fun (x y : Cnn) => x.2.2.2.2.2.2.2.2.2.2.2.2.2.2.2.2.2.2.2.2.2.1 ≠ y.2.2.2.2.2.2.2.2.2.2.2.2.2.2.2.2.2.2.2.2.2.1), .ne (fun (x y : Cnn) => x.2.2.2.2.2.2.2.2.2.2.2.2.2.2.2.2.2.2.2.2.2.2.1 ≠ y.2.2.2.2.2.2.2.2.2.2.2.2.2.2.2.2.2.2.2.2.2.2.1), .ne (fun (x y : Cnn) => x.2.2.2.2.2.2.2.2.2.2.2.2.2.2.2.2.2.2.2.2.2.2.2.1 ≠ y.2.2.2.2.2.2.2.2.2.2.2.2.2.2.2.2.2.2.2.2.2.2.2.1), .call (fun (x _ : Cnn) => wd ((x.2.2.2.2.2.2.2.2.2.2.2.2.2.2.2.2.2.2.2.2.2.2.2.2.1, x.2.2.2.2.2.2.2.2.2.2.2.2.2.2.2.2.2.2.2.2.2.2.2.2.2.1, x.2.2.2.2.2.2.2.2.2.2.2.2.2.2.2.2.2.2.2.2.2.2.2.2.2.2.1) : Rsp)) (fun (x y : Cnn) => eqF ((x.2.2.2.2.2.2.2.2.2.2.2.2.2.2.2.2.2.2.2.2.2.2.2.2.1, x.2.2.2.2.2.2.2.2.2.2.2.2.2.2.2.2.2.2.2.2.2.2.2.2.2.1, x.2.2.2.2.2.2.2.2.2.2.2.2.2.2.2.2.2.2.2.2.2.2.2.2.2.2.1) : Rsp) (y.2.2.2.2.2.2.2.2.2.2.2.2.2.2.2.2.2.2.2.2.2.2.2.2.1, y.2.2.2.2.2.2.2.2.2.2.2.2.2.2.2.2.2.2.2.2.2.2.2.2.2.1, y.2.2.2.2.2.2.2.2.2.2.2.2.2.2.2.2.2.2.2.2.2.2.2.2.2.2.1)), .call (fun (x _ : Cnn) => wd (x.2.2.2.2.2.2.2.2.2.2.2.2.2.2.2.2.2.2.2.2.2.2.2.2.2.2.2 : (List Tld))) (fun (x y : Cnn) => eqF (x.2.2.2.2.2.2.2.2.2.2.2.2.2.2.2.2.2.2.2.2.2.2.2.2.2.2.2 : (List Tld)) y.2.2.2.2.2.2.2.2.2.2.2.2.2.2.2.2.2.2.2.2.2.2.2.2.2.2.2)]
def mk23 (a0 : Int) (a1 : S) (a2 : Int) (a3 : Req) (a4 : Req) (a5 : Sto) (a6 : Bool) (a7 : Int) (a8 : Int) (a9 : Int) (a10 : Int) (a11 : Bool) (a12 : Rsp) (a13 : (List Tld)) : Cnn := (a0, a1, a2, a3.1, a3.2.1, a3.2.2.1, a3.2.2.2, a4.1, a4.2.1, a4.2.2.1, a4.2.2.2, a5.1, a5.2.1, a5.2.2.1, a5.2.2.2.1, a5.2.2.2.2.1, a5.2.2.2.2.2.1, a5.2.2.2.2.2.2, a6, a7, a8, a9, a10, a11, a12.1, a12.2.1, a12.2.2, a13)
theorem a23 (x y : Cnn) : eqAll x y st23 ↔ x = y := by
  constructor
  · rintro ⟨h0, h1, h2, h3, h4, h5, h6, h7, h8, h9, h10, h11, h12, h13, -⟩
    have h0 : x.1 = y.1 := Classical.byContradiction h0
    have h1 : x.2.1 = y.2.1 := Classical.byContradiction h1
    have h2 : x.2.2.1 = y.2.2.1 := Classical.byContradiction h2
    have h3 : ((x.2.2.2.1, x.2.2.2.2.1, x.2.2.2.2.2.1, x.2.2.2.2.2.2.1) : Req) = (y.2.2.2.1, y.2.2.2.2.1, y.2.2.2.2.2.1, y.2.2.2.2.2.2.1) := eqF_iff.1 h3
    have h4 : ((x.2.2.2.2.2.2.2.1, x.2.2.2.2.2.2.2.2.1, x.2.2.2.2.2.2.2.2.2.1, x.2.2.2.2.2.2.2.2.2.2.1) : Req) = (y.2.2.2.2.2.2.2.1, y.2.2.2.2.2.2.2.2.1, y.2.2.2.2.2.2.2.2.2.1, y.2.2.2.2.2.2.2.2.2.2.1) := eqF_iff.1 h4
    have h5 : ((x.2.2.2.2.2.2.2.2.2.2.2.1, x.2.2.2.2.2.2.2.2.2.2.2.2.1, x.2.2.2.2.2.2.2.2.2.2.2.2.2.1, x.2.2.2.2.2.2.2.2.2.2.2.2.2.2.1, x.2.2.2.2.2.2.2.2.2.2.2.2.2.2.2.1, x.2.2.2.2.2.2.2.2.2.2.2.2.2.2.2.2.1, x.2.2.2.2.2.2.2.2.2.2.2.2.2.2.2.2.2.1) : Sto) = (y.2.2.2.2.2.2.2.2.2.2.2.1, y.2.2.2.2.2.2.2.2.2.2.2.2.1, y.2.2.2.2.2.2.2.2.2.2.2.2.2.1, y.2.2.2.2.2.2.2.2.2.2.2.2.2.2.1, y.2.2.2.2.2.2.2.2.2.2.2.2.2.2.2.1, y.2.2.2.2.2.2.2.2.2.2.2.2.2.2.2.2.1, y.2.2.2.2.2.2.2.2.2.2.2.2.2.2.2.2.2.1) := eqF_iff.1 h5
    have h6 : x.2.2.2.2.2.2.2.2.2.2.2.2.2.2.2.2.2.2.1 = y.2.2.2.2.2.2.2.2.2.2.2.2.2.2.2.2.2.2.1 := Classical.byContradiction h6
    have h7 : x.2.2.2.2.2.2.2.2.2.2.2.2.2.2.2.2.2.2.2.1 = y.2.2.2.2.2.2.2.2.2.2.2.2.2.2.2.2.2.2.2.1 := Classical.byContradiction h7
    have h8 : x.2.2.2.2.2.2.2.2.2.2.2.2.2.2.2.2.2.2.2.2.1 = y.2.2.2.2.2.2.2.2.2.2.2.2.2.2.2.2.2.2.2.2.1 := Classical.byContradiction h8
    have h9 : x.2.2.2.2.2.2.2.2.2.2.2.2.2.2.2.2.2.2.2.2.2.1 = y.2.2.2.2.2.2.2.2.2.2.2.2.2.2.2.2.2.2.2.2.2.1 := Classical.byContradiction h9
    have h10 : x.2.2.2.2.2.2.2.2.2.2.2.2.2.2.2.2.2.2.2.2.2.2.1 = y.2.2.2.2.2.2.2.2.2.2.2.2.2.2.2.2.2.2.2.2.2.2.1 := Classical.byContradiction h10
    have h11 : x.2.2.2.2.2.2.2.2.2.2.2.2.2.2.2.2.2.2.2.2.2.2.2.1 = y.2.2.2.2.2.2.2.2.2.2.2.2.2.2.2.2.2.2.2.2.2.2.2.1 := Classical.byContradiction h11
    have h12 : ((x.2.2.2.2.2.2.2.2.2.2.2.2.2.2.2.2.2.2.2.2.2.2.2.2.1, x.2.2.2.2.2.2.2.2.2.2.2.2.2.2.2.2.2.2.2.2.2.2.2.2.2.1, x.2.2.2.2.2.2.2.2.2.2.2.2.2.2.2.2.2.2.2.2.2.2.2.2.2.2.1) : Rsp) = (y.2.2.2.2.2.2.2.2.2.2.2.2.2.2.2.2.2.2.2.2.2.2.2.2.1, y.2.2.2.2.2.2.2.2.2.2.2.2.2.2.2.2.2.2.2.2.2.2.2.2.2.1, y.2.2.2.2.2.2.2.2.2.2.2.2.2.2.2.2.2.2.2.2.2.2.2.2.2.2.1) := eqF_iff.1 h12
    have h13 : (x.2.2.2.2.2.2.2.2.2.2.2.2.2.2.2.2.2.2.2.2.2.2.2.2.2.2.2 : (List Tld)) = y.2.2.2.2.2.2.2.2.2.2.2.2.2.2.2.2.2.2.2.2.2.2.2.2.2.2.2 := eqF_iff.1 h13
    show mk23 (x.1) (x.2.1) (x.2.2.1) ((x.2.2.2.1, x.2.2.2.2.1, x.2.2.2.2.2.1, x.2.2.2.2.2.2.1)) ((x.2.2.2.2.2.2.2.1, x.2.2.2.2.2.2.2.2.1, x.2.2.2.2.2.2.2.2.2.1, x.2.2.2.2.2.2.2.2.2.2.1)) ((x.2.2.2.2.2.2.2.2.2.2.2.1, x.2.2.2.2.2.2.2.2.2.2.2.2.1, x.2.2.2.2.2.2.2.2.2.2.2.2.2.1, x.2.2.2.2.2.2.2.2.2.2.2.2.2.2.1, x.2.2.2.2.2.2.2.2.2.2.2.2.2.2.2.1, x.2.2.2.2.2.2.2.2.2.2.2.2.2.2.2.2.1, x.2.2.2.2.2.2.2.2.2.2.2.2.2.2.2.2.2.1)) (x.2.2.2.2.2.2.2.2.2.2.2.2.2.2.2.2.2.2.1) (x.2.2.2.2.2.2.2.2.2.2.2.2.2.2.2.2.2.2.2.1) (x.2.2.2.2.2.2.2.2.2.2.2.2.2.2.2.2.2.2.2.2.1) (x.2.2.2.2.2.2.2.2.2.2.2.2.2.2.2.2.2.2.2.2.2.1) (x.2.2.2.2.2.2.2.2.2.2.2.2.2.2.2.2.2.2.2.2.2.2.1) (x.2.2.2.2.2.2.2.2.2.2.2.2.2.2.2.2.2.2.2.2.2.2.2.1) ((x.2.2.2.2.2.2.2.2.2.2.2.2.2.2.2.2.2.2.2.2.2.2.2.2.1, x.2.2.2.2.2.2.2.2.2.2.2.2.2.2.2.2.2.2.2.2.2.2.2.2.2.1, x.2.2.2.2.2.2.2.2.2.2.2.2.2.2.2.2.2.2.2.2.2.2.2.2.2.2.1)) (x.2.2.2.2.2.2.2.2.2.2.2.2.2.2.2.2.2.2.2.2.2.2.2.2.2.2.2) = mk23 (y.1) (y.2.1) (y.2.2.1) ((y.2.2.2.1, y.2.2.2.2.1, y.2.2.2.2.2.1, y.2.2.2.2.2.2.1)) ((y.2.2.2.2.2.2.2.1, y.2.2.2.2.2.2.2.2.1, y.2.2.2.2.2.2.2.2.2.1, y.2.2.2.2.2.2.2.2.2.2.1)) ((y.2.2.2.2.2.2.2.2.2.2.2.1, y.2.2.2.2.2.2.2.2.2.2.2.2.1, y.2.2.2.2.2.2.2.2.2.2.2.2.2.1, y.2.2.2.2.2.2.2.2.2.2.2.2.2.2.1, y.2.2.2.2.2.2.2.2.2.2.2.2.2.2.2.1, y.2.2.2.2.2.2.2.2.2.2.2.2.2.2.2.2.1, y.2.2.2.2.2.2.2.2.2.2.2.2.2.2.2.2.2.1)) (y.2.2.2.2.2.2.2.2.2.2.2.2.2.2.2.2.2.2.1) (y.2.2.2.2.2.2.2.2.2.2.2.2.2.2.2.2.2.2.2.1) (y.2.2.2.2.2.2.2.2.2.2.2.2.2.2.2.2.2.2.2.2.1) (y.2.2.2.2.2.2.2.2.2.2.2.2.2.2.2.2.2.2.2.2.2.1) (y.2.2.2.2.2.2.2.2.2.2.2.2.2.2.2.2.2.2.2.2.2.2.1) (y.2.2.2.2.2.2.2.2.2.2.2.2.2.2.2.2.2.2.2.2.2.2.2.1) ((y.2.2.2.2.2.2.2.2.2.2.2.2.2.2.2.2.2.2.2.2.2.2.2.2.1, y.2.2.2.2.2.2.2.2.2.2.2.2.2.2.2.2.2.2.2.2.2.2.2.2.2.1, y.2.2.2.2.2.2.2.2.2.2.2.2.2.2.2.2.2.2.2.2.2.2.2.2.2.2.1)) (y.2.2.2.2.2.2.2.2.2.2.2.2.2.2.2.2.2.2.2.2.2.2.2.2.2.2.2)
    rw [h0, h1, h2, h3, h4, h5, h6, h7, h8, h9, h10, h11, h12, h13]
    all_goals rfl
  · rintro rfl
    exact ⟨fun h => h rfl, fun h => h rfl, fun h => h rfl, eqF_iff.2 rfl, eqF_iff.2 rfl, eqF_iff.2 rfl, fun h => h rfl, fun h => h rfl, fun h => h rfl, fun h => h rfl, fun h => h rfl, fun h => h rfl, eqF_iff.2 rfl, eqF_iff.2 rfl, trivial⟩
theorem w23 (x y : Cnn) (h : wd x) : eqFine x y st23 := by
  first | simp only [wd_pair] at h | skip
  simp only [eqFine, st23, wd_pair]
  all_goals simp only [h, and_self]
theorem law23 : ∀ q : Cnn × Cnn, pEq q.1 q.2 → eqSt q.1 q.2 st23 (fun r => r = eqF q.1 q.2) := fun q hq => eqSt_holds q.1 q.2 st23 (w23 q.1 q.2 hq) (eqF_iff.trans (a23 q.1 q.2).symm)
theorem all23 (w : World) (hJ : J w) : CtAt Try.prog ct23 w :=
  ct_by ok23 (cs23 w hJ) Try.func23 (by kernel_rfl) (H := (hint [])) law23 (by kernel_rfl)
noncomputable def E69 : Env := { tt, eqs := [], cts := [] }
theorem ok69 : EnvOk Try.prog E69 := ⟨ttOk, by kernel_rfl, rfl, mixOk⟩
theorem cs69 (w0 : World) (hJ : J w0) : EnvCts Try.prog E69 w0 w0.heap.size := by
  refine ⟨fun c hc => ?_, fun c hc => ?_⟩
  · cases hc
  · cases hc
noncomputable def ct69 : Ct := { f := 69, ps := [.v false .ro ls3], rs := [(false, ls9)], shared := false, pre := fun (x : Int) => pMarkText x, F := fun (x : Int) => mMarkText x }
theorem law69 : ∀ x : Int, pMarkText x → s_laws_markText x (fun r => r = mMarkText x) := fun x h => laws_markText_ok x h
theorem all69 (w : World) (hJ : J w) : CtAt Try.prog ct69 w :=
  ct_by ok69 (cs69 w hJ) Try.func69 (by kernel_rfl) (H := (hint [(4, [.val 0 (.int .i64), .val 3 (.str)])])) law69 (by kernel_rfl)
noncomputable def E38 : Env := { tt, eqs := [], cts := [ct69] }
theorem ok38 : EnvOk Try.prog E38 := ⟨ttOk, by kernel_rfl, rfl, mixOk⟩
theorem cs38 (m : Nat) (w0 : World) (hJ : Jn m w0) : EnvCts Try.prog E38 w0 m := by
  refine ⟨fun c hc => ?_, fun c hc => ?_⟩
  · rcases List.mem_cons.1 hc with rfl | hc
    · exact fun w hb => all69 w (Jn_J (Jn_below hJ hb))
    cases hc
  · cases hc
noncomputable def ct38 : CtM := { f := 38, ps := [.v false .io ls29, .v false .ro ls3], rs := [(false, ls3)], pre := fun (x : (List Fld) × Int) => pMarkFieldS x.1 x.2, F := fun (x : (List Fld) × Int) => mMarkFieldS x.1 x.2, W := fun (x : (List Fld) × Int) => wMarkFieldS x.1 x.2 }
theorem law38 : ∀ x : (List Fld) × Int, pMarkFieldS x.1 x.2 → s_laws_markFieldS x.1 x.2 (fun r y => r = mMarkFieldS x.1 x.2 ∧ y = wMarkFieldS x.1 x.2) := fun x h => laws_markFieldS_ok x.1 x.2 h
theorem all38 (m : Nat) (w : World) (hJ : Jn m w) : CtMAt Try.prog ct38 m w :=
  ctm_by ok38 (cs38 m w hJ) Try.func38 (by kernel_rfl) (H := (hint [(2, [.val 1 (.int .i64), .val 5 (.int .i64), .reg 0 66 [.str, .str] true])])) law38 (by kernel_rfl)
noncomputable def E15 : Env := { tt, eqs := [], cts := [], ms := [ct38] }
theorem ok15 : EnvOk Try.prog E15 := ⟨ttOk, by kernel_rfl, rfl, mixOk⟩
theorem cs15 (m : Nat) (w0 : World) (hJ : Jn m w0) : EnvCts Try.prog E15 w0 m := by
  refine ⟨fun c hc => ?_, fun c hc => ?_⟩
  · cases hc
  · rcases List.mem_cons.1 hc with rfl | hc
    · exact fun w hb => all38 m w (Jn_below hJ hb)
    cases hc
noncomputable def ct15 : CtM := { f := 15, ps := [.v true .io ls31, .v false .ro ls3], rs := [(false, ls3)], pre := fun (x : Req × Int) => pMarkRequest x.1 x.2, F := fun (x : Req × Int) => mMarkRequest x.1 x.2, W := fun (x : Req × Int) => wMarkRequest x.1 x.2 }
theorem law15 : ∀ x : Req × Int, pMarkRequest x.1 x.2 → s_laws_markRequest x.1 x.2 (fun r y => r = mMarkRequest x.1 x.2 ∧ y = wMarkRequest x.1 x.2) := fun x h => laws_markRequest_ok x.1 x.2 h
theorem all15 (m : Nat) (w : World) (hJ : Jn m w) : CtMAt Try.prog ct15 m w :=
  ctm_by ok15 (cs15 m w hJ) Try.func15 (by kernel_rfl) (H := (hint [])) law15 (by kernel_rfl)
noncomputable def E16 : Env := { tt, eqs := [], cts := [], ms := [ct38] }
theorem ok16 : EnvOk Try.prog E16 := ⟨ttOk, by kernel_rfl, rfl, mixOk⟩
theorem cs16 (m : Nat) (w0 : World) (hJ : Jn m w0) : EnvCts Try.prog E16 w0 m := by
  refine ⟨fun c hc => ?_, fun c hc => ?_⟩
  · cases hc
  · rcases List.mem_cons.1 hc with rfl | hc
    · exact fun w hb => all38 m w (Jn_below hJ hb)
    cases hc
noncomputable def ct16 : CtM := { f := 16, ps := [.v true .io ls35, .v false .ro ls3], rs := [(false, ls3)], pre := fun (x : Rsp × Int) => pMarkResponse x.1 x.2, F := fun (x : Rsp × Int) => mMarkResponse x.1 x.2, W := fun (x : Rsp × Int) => wMarkResponse x.1 x.2 }
theorem law16 : ∀ x : Rsp × Int, pMarkResponse x.1 x.2 → s_laws_markResponse x.1 x.2 (fun r y => r = mMarkResponse x.1 x.2 ∧ y = wMarkResponse x.1 x.2) := fun x h => laws_markResponse_ok x.1 x.2 h
theorem all16 (m : Nat) (w : World) (hJ : Jn m w) : CtMAt Try.prog ct16 m w :=
  ctm_by ok16 (cs16 m w hJ) Try.func16 (by kernel_rfl) (H := (hint [])) law16 (by kernel_rfl)
noncomputable def E46 : Env := { tt, eqs := [], cts := [], ms := [ct38, ct16] }
theorem ok46 : EnvOk Try.prog E46 := ⟨ttOk, by kernel_rfl, rfl, mixOk⟩
theorem cs46 (m : Nat) (w0 : World) (hJ : Jn m w0) : EnvCts Try.prog E46 w0 m := by
  refine ⟨fun c hc => ?_, fun c hc => ?_⟩
  · cases hc
  · rcases List.mem_cons.1 hc with rfl | hc
    · exact fun w hb => all38 m w (Jn_below hJ hb)
    rcases List.mem_cons.1 hc with rfl | hc
    · exact fun w hb => all16 m w (Jn_below hJ hb)
    cases hc
noncomputable def ct46 : CtM := { f := 46, ps := [.v true .io ls45, .v false .ro ls3], rs := [(false, ls3)], pre := fun (x : Sto × Int) => pMarkStored x.1 x.2, F := fun (x : Sto × Int) => mMarkStored x.1 x.2, W := fun (x : Sto × Int) => wMarkStored x.1 x.2 }
theorem law46 : ∀ x : Sto × Int, pMarkStored x.1 x.2 → s_laws_markStored x.1 x.2 (fun r y => r = mMarkStored x.1 x.2 ∧ y = wMarkStored x.1 x.2) := fun x h => laws_markStored_ok x.1 x.2 h
theorem all46 (m : Nat) (w : World) (hJ : Jn m w) : CtMAt Try.prog ct46 m w :=
  ctm_by ok46 (cs46 m w hJ) Try.func46 (by kernel_rfl) (H := (hint [])) law46 (by kernel_rfl)
noncomputable def E47 : Env := { tt, eqs := [], cts := [ct69], ms := [ct38], deep := true }
theorem ok47 : EnvOk Try.prog E47 := ⟨ttOk, by kernel_rfl, rfl, mixOk⟩
theorem cs47 (m : Nat) (w0 : World) (hJ : Jn m w0) : EnvCts Try.prog E47 w0 m := by
  refine ⟨fun c hc => ?_, fun c hc => ?_⟩
  · rcases List.mem_cons.1 hc with rfl | hc
    · exact fun w hb => all69 w (Jn_J (Jn_below hJ hb))
    cases hc
  · rcases List.mem_cons.1 hc with rfl | hc
    · exact fun w hb => all38 m w (Jn_below hJ hb)
    cases hc
noncomputable def ct47 : CtM := { f := 47, ps := [.v false .io ls46, .v false .ro ls3], rs := [(false, ls3)], pre := fun (x : (List Tld) × Int) => pMarkToldS x.1 x.2, F := fun (x : (List Tld) × Int) => mMarkToldS x.1 x.2, W := fun (x : (List Tld) × Int) => wMarkToldS x.1 x.2, deep := true }
theorem law47 : ∀ x : (List Tld) × Int, pMarkToldS x.1 x.2 → s_laws_markToldS x.1 x.2 (fun r y => r = mMarkToldS x.1 x.2 ∧ y = wMarkToldS x.1 x.2) := fun x h => laws_markToldS_ok x.1 x.2 h
theorem all47 (m : Nat) (w : World) (hJ : Jn m w) : CtMAt Try.prog ct47 m w :=
  ctm_by ok47 (cs47 m w hJ) Try.func47 (by kernel_rfl) (H := (hint [(2, [.val 1 (.int .i64), .val 5 (.int .i64), .reg 0 98 [.int .i64, .int .i64, .list 66 [.str, .str], .str] true true])])) law47 (by kernel_rfl)
noncomputable def E24 : Env := { tt, eqs := [], cts := [], ms := [ct15, ct46, ct16, ct47], deep := true }
theorem ok24 : EnvOk Try.prog E24 := ⟨ttOk, by kernel_rfl, rfl, mixOk⟩
theorem cs24 (m : Nat) (w0 : World) (hJ : Jn m w0) : EnvCts Try.prog E24 w0 m := by
  refine ⟨fun c hc => ?_, fun c hc => ?_⟩
  · cases hc
  · rcases List.mem_cons.1 hc with rfl | hc
    · exact fun w hb => all15 m w (Jn_below hJ hb)
    rcases List.mem_cons.1 hc with rfl | hc
    · exact fun w hb => all46 m w (Jn_below hJ hb)
    rcases List.mem_cons.1 hc with rfl | hc
    · exact fun w hb => all16 m w (Jn_below hJ hb)
    rcases List.mem_cons.1 hc with rfl | hc
    · exact fun w hb => all47 m w (Jn_below hJ hb)
    cases hc
noncomputable def ct24 : CtM := { f := 24, ps := [.v true .io ls48, .v false .ro ls3], rs := [(false, ls3)], pre := fun (x : Cnn × Int) => pMarkConn x.1 x.2, F := fun (x : Cnn × Int) => mMarkConn x.1 x.2, W := fun (x : Cnn × Int) => wMarkConn x.1 x.2, deep := true }
theorem law24 : ∀ x : Cnn × Int, pMarkConn x.1 x.2 → s_laws_markConn x.1 x.2 (fun r y => r = mMarkConn x.1 x.2 ∧ y = wMarkConn x.1 x.2) := fun x h => laws_markConn_ok x.1 x.2 h
theorem all24 (m : Nat) (w : World) (hJ : Jn m w) : CtMAt Try.prog ct24 m w :=
  ctm_by ok24 (cs24 m w hJ) Try.func24 (by kernel_rfl) (H := (hint [])) law24 (by kernel_rfl)
noncomputable def E39 : Env := { tt, eqs := [], cts := [ct69] }
theorem ok39 : EnvOk Try.prog E39 := ⟨ttOk, by kernel_rfl, rfl, mixOk⟩
theorem cs39 (w0 : World) (hJ : J w0) : EnvCts Try.prog E39 w0 w0.heap.size := by
  refine ⟨fun c hc => ?_, fun c hc => ?_⟩
  · rcases List.mem_cons.1 hc with rfl | hc
    · exact fun w hb => all69 w (J_below hJ hb)
    cases hc
  · cases hc
noncomputable def ct39 : Ct := { f := 39, ps := [.v false .ro ls29, .v false .ro ls3], rs := [(false, ls3)], shared := false, pre := fun (x : (List Fld) × Int) => pHeldFieldS x.1 x.2, F := fun (x : (List Fld) × Int) => mHeldFieldS x.1 x.2 }
theorem law39 : ∀ x : (List Fld) × Int, pHeldFieldS x.1 x.2 → s_laws_heldFieldS x.1 x.2 (fun r => r = mHeldFieldS x.1 x.2) := fun x h => laws_heldFieldS_ok x.1 x.2 h
theorem all39 (w : World) (hJ : J w) : CtAt Try.prog ct39 w :=
  ct_by ok39 (cs39 w hJ) Try.func39 (by kernel_rfl) (H := (hint [(2, [.val 1 (.int .i64), .val 5 (.int .i64)])])) law39 (by kernel_rfl)
noncomputable def E17 : Env := { tt, eqs := [], cts := [ct39] }
theorem ok17 : EnvOk Try.prog E17 := ⟨ttOk, by kernel_rfl, rfl, mixOk⟩
theorem cs17 (w0 : World) (hJ : J w0) : EnvCts Try.prog E17 w0 w0.heap.size := by
  refine ⟨fun c hc => ?_, fun c hc => ?_⟩
  · rcases List.mem_cons.1 hc with rfl | hc
    · exact fun w hb => all39 w (J_below hJ hb)
    cases hc
  · cases hc
noncomputable def ct17 : Ct := { f := 17, ps := [.v true .ro ls31, .v false .ro ls3], rs := [(false, ls3)], shared := false, pre := fun (x : Req × Int) => pHeldRequest x.1 x.2, F := fun (x : Req × Int) => mHeldRequest x.1 x.2 }
theorem law17 : ∀ x : Req × Int, pHeldRequest x.1 x.2 → s_laws_heldRequest x.1 x.2 (fun r => r = mHeldRequest x.1 x.2) := fun x h => laws_heldRequest_ok x.1 x.2 h
theorem all17 (w : World) (hJ : J w) : CtAt Try.prog ct17 w :=
  ct_by ok17 (cs17 w hJ) Try.func17 (by kernel_rfl) (H := (hint [])) law17 (by kernel_rfl)
noncomputable def E20 : Env := { tt, eqs := [], cts := [ct39] }
theorem ok20 : EnvOk Try.prog E20 := ⟨ttOk, by kernel_rfl, rfl, mixOk⟩
theorem cs20 (w0 : World) (hJ : J w0) : EnvCts Try.prog E20 w0 w0.heap.size := by
  refine ⟨fun c hc => ?_, fun c hc => ?_⟩
  · rcases List.mem_cons.1 hc with rfl | hc
    · exact fun w hb => all39 w (J_below hJ hb)
    cases hc
  · cases hc
noncomputable def ct20 : Ct := { f := 20, ps := [.v true .ro ls35, .v false .ro ls3], rs := [(false, ls3)], shared := false, pre := fun (x : Rsp × Int) => pHeldResponse x.1 x.2, F := fun (x : Rsp × Int) => mHeldResponse x.1 x.2 }
theorem law20 : ∀ x : Rsp × Int, pHeldResponse x.1 x.2 → s_laws_heldResponse x.1 x.2 (fun r => r = mHeldResponse x.1 x.2) := fun x h => laws_heldResponse_ok x.1 x.2 h
theorem all20 (w : World) (hJ : J w) : CtAt Try.prog ct20 w :=
  ct_by ok20 (cs20 w hJ) Try.func20 (by kernel_rfl) (H := (hint [])) law20 (by kernel_rfl)
noncomputable def E48 : Env := { tt, eqs := [], cts := [ct39, ct20] }
theorem ok48 : EnvOk Try.prog E48 := ⟨ttOk, by kernel_rfl, rfl, mixOk⟩
theorem cs48 (w0 : World) (hJ : J w0) : EnvCts Try.prog E48 w0 w0.heap.size := by
  refine ⟨fun c hc => ?_, fun c hc => ?_⟩
  · rcases List.mem_cons.1 hc with rfl | hc
    · exact fun w hb => all39 w (J_below hJ hb)
    rcases List.mem_cons.1 hc with rfl | hc
    · exact fun w hb => all20 w (J_below hJ hb)
    cases hc
  · cases hc
noncomputable def ct48 : Ct := { f := 48, ps := [.v true .ro ls45, .v false .ro ls3], rs := [(false, ls3)], shared := false, pre := fun (x : Sto × Int) => pHeldStored x.1 x.2, F := fun (x : Sto × Int) => mHeldStored x.1 x.2 }
theorem law48 : ∀ x : Sto × Int, pHeldStored x.1 x.2 → s_laws_heldStored x.1 x.2 (fun r => r = mHeldStored x.1 x.2) := fun x h => laws_heldStored_ok x.1 x.2 h
theorem all48 (w : World) (hJ : J w) : CtAt Try.prog ct48 w :=
  ct_by ok48 (cs48 w hJ) Try.func48 (by kernel_rfl) (H := (hint [])) law48 (by kernel_rfl)
noncomputable def E49 : Env := { tt, eqs := [], cts := [ct39, ct69] }
theorem ok49 : EnvOk Try.prog E49 := ⟨ttOk, by kernel_rfl, rfl, mixOk⟩
theorem cs49 (w0 : World) (hJ : J w0) : EnvCts Try.prog E49 w0 w0.heap.size := by
  refine ⟨fun c hc => ?_, fun c hc => ?_⟩
  · rcases List.mem_cons.1 hc with rfl | hc
    · exact fun w hb => all39 w (J_below hJ hb)
    rcases List.mem_cons.1 hc with rfl | hc
    · exact fun w hb => all69 w (J_below hJ hb)
    cases hc
  · cases hc
noncomputable def ct49 : Ct := { f := 49, ps := [.v false .ro ls46, .v false .ro ls3], rs := [(false, ls3)], shared := false, pre := fun (x : (List Tld) × Int) => pHeldToldS x.1 x.2, F := fun (x : (List Tld) × Int) => mHeldToldS x.1 x.2 }
theorem law49 : ∀ x : (List Tld) × Int, pHeldToldS x.1 x.2 → s_laws_heldToldS x.1 x.2 (fun r => r = mHeldToldS x.1 x.2) := fun x h => laws_heldToldS_ok x.1 x.2 h
theorem all49 (w : World) (hJ : J w) : CtAt Try.prog ct49 w :=
  ct_by ok49 (cs49 w hJ) Try.func49 (by kernel_rfl) (H := (hint [(2, [.val 1 (.int .i64), .val 5 (.int .i64)])])) law49 (by kernel_rfl)
noncomputable def E25 : Env := { tt, eqs := [], cts := [ct17, ct48, ct20, ct49] }
theorem ok25 : EnvOk Try.prog E25 := ⟨ttOk, by kernel_rfl, rfl, mixOk⟩
theorem cs25 (w0 : World) (hJ : J w0) : EnvCts Try.prog E25 w0 w0.heap.size := by
  refine ⟨fun c hc => ?_, fun c hc => ?_⟩
  · rcases List.mem_cons.1 hc with rfl | hc
    · exact fun w hb => all17 w (J_below hJ hb)
    rcases List.mem_cons.1 hc with rfl | hc
    · exact fun w hb => all48 w (J_below hJ hb)
    rcases List.mem_cons.1 hc with rfl | hc
    · exact fun w hb => all20 w (J_below hJ hb)
    rcases List.mem_cons.1 hc with rfl | hc
    · exact fun w hb => all49 w (J_below hJ hb)
    cases hc
  · cases hc
noncomputable def ct25 : Ct := { f := 25, ps := [.v true .ro ls48, .v false .ro ls3], rs := [(false, ls3)], shared := false, pre := fun (x : Cnn × Int) => pHeldConn x.1 x.2, F := fun (x : Cnn × Int) => mHeldConn x.1 x.2 }
theorem law25 : ∀ x : Cnn × Int, pHeldConn x.1 x.2 → s_laws_heldConn x.1 x.2 (fun r => r = mHeldConn x.1 x.2) := fun x h => laws_heldConn_ok x.1 x.2 h
theorem all25 (w : World) (hJ : J w) : CtAt Try.prog ct25 w :=
  ct_by ok25 (cs25 w hJ) Try.func25 (by kernel_rfl) (H := (hint [])) law25 (by kernel_rfl)
noncomputable def E5 : Env := { tt, eqs := [], cts := [ct21, ct22, ct23, ct25], ms := [ct24] }
theorem ok5 : EnvOk Try.prog E5 := ⟨ttOk, by kernel_rfl, rfl, mixOk⟩
theorem cs5 (w0 : World) (hJ : J w0) : EnvCts Try.prog E5 w0 w0.heap.size := by
  refine ⟨fun c hc => ?_, fun c hc => ?_⟩
  · rcases List.mem_cons.1 hc with rfl | hc
    · exact fun w hb => all21 w (J_below hJ hb)
    rcases List.mem_cons.1 hc with rfl | hc
    · exact fun w hb => all22 w (J_below hJ hb)
    rcases List.mem_cons.1 hc with rfl | hc
    · exact fun w hb => all23 w (J_below hJ hb)
    rcases List.mem_cons.1 hc with rfl | hc
    · exact fun w hb => all25 w (J_below hJ hb)
    cases hc
  · rcases List.mem_cons.1 hc with rfl | hc
    · exact fun w hb => all24 w0.heap.size w (Jn_of hJ hb)
    cases hc
noncomputable def ct5 : Ct := boolCt 5 [.v false .ro ls9] (fun (x : S) => p_FnExactConnNew x)
theorem law5 : ∀ x : S, p_FnExactConnNew x → s_laws_FnExactConnNew x (fun r => r = true) := fun x h => laws_FnExactConnNew_ok x h
theorem all5 (w : World) (hJ : J w) : CtAt Try.prog ct5 w :=
  ct_by ok5 (cs5 w hJ) Try.func5 (by kernel_rfl) (H := (hint [])) law5 (by kernel_rfl)
end Go.Proofs.Ytiefookbpgdmoaa.ApC
end
