/- A small verified machine for the operations of the given program, and plain laws of what its functions compute; without conditions of its own. Part 5. -/
import Derived.Test.Ytdglpinlegnjkaacn3
import Derived.Sort.Walk0
import Derived.Lib.IndexBytes
import Derived.Lib.IndexLaws
import Derived.Test.YtdglpinlegnjkaaProg
set_option linter.unusedVariables false
set_option linter.unusedSimpArgs false
section
/- What functions of caches come to: printed by a program of this session's own (EwShow) out of the small machine. -/
set_option linter.unusedVariables false
namespace Go.Ev

end Go.Ev
end

section
/- Laws of the plain library: the origin. -/
set_option linter.unusedVariables false
namespace Go.Ev
end Go.Ev
end

section
/- Laws of the plain library: shards. -/
set_option linter.unusedVariables false
namespace Go.Ev
end Go.Ev
end

section
/- Laws of the plain library: caches; what is found in a shard. -/
set_option linter.unusedVariables false
namespace Go.Ev
end Go.Ev
end

section
/- Laws of the plain library: marks of what has slices in its slices; copies; ShardTouch. -/
set_option linter.unusedVariables false
set_option linter.unusedSimpArgs false
namespace Go.Ev
theorem rx_set {α : Type} [Dft α] {xs : List α} {i : Nat} (h : i < xs.length) (a : α) : rx (xs.set i a) (i : Int) = a := by
  rw [rx_get _ (by rw [List.length_set]; exact h), List.getElem_set_self]
theorem drop_set_succ {α : Type} {xs ys : List α} {i : Nat} {a : α} (h : xs.drop i = ys.drop i) : (xs.set i a).drop (i + 1) = ys.drop (i + 1) := by
  have : xs.drop (i + 1) = ys.drop (i + 1) := by
    have := congrArg (List.drop 1) h
    simpa [List.drop_drop, Nat.add_comm] using this
  rw [List.drop_set, if_pos (by omega)]
  exact this
theorem get_of_drop {α : Type} {xs ys : List α} {i : Nat} (h : xs.drop i = ys.drop i) (hx : i < xs.length) (hy : i < ys.length) : xs[i] = ys[i] := by
  have := congrArg List.head? h
  simpa [List.head?_drop, List.getElem?_eq_getElem hx, List.getElem?_eq_getElem hy] using this
theorem laws_markSlotS_ok (a0 : List Slt) (a1 : Int) (h : pMarkSlotS a0 a1) : s_laws_markSlotS a0 a1 (fun r y => r = mMarkSlotS a0 a1 ∧ y = wMarkSlotS a0 a1) := by
  obtain ⟨k0, k1⟩ := h
  have hlen : 6 * a0.length ≤ sumN (a0.map cntSlt) := sum_ge_len (fun x => by unfold cntSlt; omega) a0
  have hm := markL_length (f := markSlt) (c := cntSlt) a0 a1
  intro L hL
  refine loopI hL (fun y => ∃ i : Nat, i ≤ a0.length ∧ y.2.1 = (i : Int) ∧ y.1 = a1 + (sumN ((a0.take i).map cntSlt) : Nat) ∧ y.2.2.length = a0.length ∧ y.2.2.take i = (markL markSlt cntSlt a0 a1).take i ∧ y.2.2.drop i = a0.drop i) (fun y => a0.length + 1 - y.2.1.toNat) (fun y hI ih => ?_) (a1, 0, a0) ⟨0, by omega, rfl, by simp [sumN], rfl, by simp, rfl⟩
  obtain ⟨k, i', xs⟩ := y
  obtain ⟨i, hi, hy, hk, hl, ht, hd⟩ := hI
  simp only at hy hk hl ht hd ⊢
  subst hy
  have hs := sum_take_le cntSlt a0 i
  refine ⟨fun hlt => ?_, fun hge => ?_⟩
  · have hlt' : i < xs.length := by omega
    have hla : i < a0.length := by omega
    have hat := sum_at (c := cntSlt) hla
    have hstep := sum_take_succ (c := cntSlt) hla
    have hx : rx xs (i : Int) = a0[i] := by rw [rx_get _ hlt']; exact get_of_drop hd hlt' hla
    have rs : ∀ a : Slt, rx (xs.set i a) (i : Int) = a := fun a => rx_set hlt' a
    rw [hx]
    have hmk := markL_get (f := markSlt) (c := cntSlt) a0 a1 i hla
    rw [← hk] at hmk
    generalize a0[i] = x at hat hstep hmk
    have hc : cntSlt x = 6 + 2 * x.2.1.length + 2 * x.2.2.2.1.length := rfl
    refine ⟨⟨by omega, by omega⟩, by omega, hlt, ?_⟩
    simp only [Int.toNat_natCast]
    rintro _ rfl
    simp only [rs, List.length_set, List.set_set]
    refine ⟨by omega, hlt, ?_⟩
    rintro _ rfl
    simp only [rs, List.length_set, List.set_set]
    rw [wrap64 (n := k + 1) (by omega) (by omega)]
    refine ⟨⟨by omega, by omega, by omega⟩, ?_⟩
    simp only [show mMarkFieldS x.2.1 (k + 1) = k + 1 + 2 * (x.2.1.length : Int) from rfl, show (wMarkFieldS x.2.1 (k + 1)).1 = markFld x.2.1 (k + 1) from rfl]
    rintro _ rfl
    simp only [rs, List.length_set, List.set_set]
    refine ⟨by omega, hlt, ?_⟩
    rintro _ rfl
    simp only [rs, List.length_set, List.set_set]
    refine ⟨by omega, hlt, ?_⟩
    rintro _ rfl
    simp only [rs, List.length_set, List.set_set]
    rw [wrap64 (n := k + 1 + 2 * (x.2.1.length : Int) + 1) (by omega) (by omega)]
    generalize hk3 : k + 1 + 2 * (x.2.1.length : Int) + 1 = k3
    refine ⟨⟨by omega, by omega, by omega⟩, ?_⟩
    simp only [show mMarkFieldS x.2.2.2.1 k3 = k3 + 2 * (x.2.2.2.1.length : Int) from rfl, show (wMarkFieldS x.2.2.2.1 k3).1 = markFld x.2.2.2.1 k3 from rfl]
    rintro _ rfl
    simp only [rs, List.length_set, List.set_set]
    refine ⟨⟨by omega, by omega⟩, by omega, hlt, ?_⟩
    rintro _ rfl
    simp only [rs, List.length_set, List.set_set]
    refine ⟨by omega, hlt, ?_⟩
    rintro _ rfl
    simp only [rs, List.length_set, List.set_set]
    refine ⟨by omega, hlt, ?_⟩
    rintro _ rfl
    simp only [rs, List.length_set, List.set_set]
    refine ⟨by decide, by omega, hlt, ?_⟩
    rintro _ rfl
    rw [wrap64 (n := k3 + 2 * (x.2.2.2.1.length : Int) + 1) (by omega) (by omega), wrap64 (n := k3 + 2 * (x.2.2.2.1.length : Int) + 1 + 1) (by omega) (by omega), wrap64 (n := k3 + 2 * (x.2.2.2.1.length : Int) + 1 + 1 + 1) (by omega) (by omega), wrap64 (n := k3 + 2 * (x.2.2.2.1.length : Int) + 1 + 1 + 1 + 1) (by omega) (by omega), wrapS (by omega)]
    refine ih _ ⟨i + 1, by omega, rfl, ?_, by simp [hl], ?_, ?_⟩ (by simp only [Int.toNat_natCast]; omega)
    · simp only
      rw [hstep]
      omega
    · subst hk3
      exact take_set_succ hlt' (by omega) ht hmk
    · exact drop_set_succ hd
  · have hie : i = a0.length := by omega
    subst hie
    rw [List.take_of_length_le (by omega), List.take_of_length_le (by omega)] at ht
    rw [List.take_of_length_le (Nat.le_refl _)] at hk
    exact ⟨hk, by unfold wMarkSlotS; rw [ht]⟩
theorem marked_get {α : Type} {f : α → Int → α} {c : α → Nat} {l : List α} {k : Int} (h : markL f c l k = l) {i : Nat} (hi : i < l.length) : l[i] = f l[i] (k + (sumN ((l.take i).map c) : Nat)) := by
  have := markL_get (f := f) (c := c) l k i hi
  rw [← this]
  congr 1
  exact h.symm
theorem laws_heldSlotS_ok (a0 : List Slt) (a1 : Int) (h : pHeldSlotS a0 a1) : s_laws_heldSlotS a0 a1 (fun r => r = mHeldSlotS a0 a1) := by
  obtain ⟨⟨k0, k1⟩, hmk⟩ := h
  have hlen : 6 * a0.length ≤ sumN (a0.map cntSlt) := sum_ge_len (fun x => by unfold cntSlt; omega) a0
  intro L hL
  refine loopI hL (fun y => ∃ i : Nat, i ≤ a0.length ∧ y.2 = (i : Int) ∧ y.1 = a1 + (sumN ((a0.take i).map cntSlt) : Nat)) (fun y => a0.length + 1 - y.2.toNat) (fun y hI ih => ?_) (a1, 0) ⟨0, by omega, rfl, by simp [sumN]⟩
  obtain ⟨k, i'⟩ := y
  obtain ⟨i, hi, hy, hk⟩ := hI
  simp only at hy hk ⊢
  subst hy
  have hs := sum_take_le cntSlt a0 i
  refine ⟨fun hlt => ?_, fun hge => ?_⟩
  · have hla : i < a0.length := by omega
    have hat := sum_at (c := cntSlt) hla
    have hstep := sum_take_succ (c := cntSlt) hla
    have hg := marked_get hmk hla
    rw [← hk] at hg
    rw [rx_get _ hla]
    generalize a0[i] = x at hat hstep hg
    have hc : cntSlt x = 6 + 2 * x.2.1.length + 2 * x.2.2.2.1.length := rfl
    have g1 : x.1 = mMarkText k := congrArg (fun z : Slt => z.1) hg
    have g2 : x.2.1 = markFld x.2.1 (k + 1) := congrArg (fun z : Slt => z.2.1) hg
    have g3 : x.2.2.1 = k + 1 + 2 * (x.2.1.length : Int) := congrArg (fun z : Slt => z.2.2.1) hg
    have g4 : x.2.2.2.1 = markFld x.2.2.2.1 (k + 1 + 2 * (x.2.1.length : Int) + 1) := congrArg (fun z : Slt => z.2.2.2.1) hg
    have g5 : x.2.2.2.2.1 = mMarkText (k + 1 + 2 * (x.2.1.length : Int) + 1 + 2 * (x.2.2.2.1.length : Int)) := congrArg (fun z : Slt => z.2.2.2.2.1) hg
    have g6 : x.2.2.2.2.2.1 = k + 1 + 2 * (x.2.1.length : Int) + 1 + 2 * (x.2.2.2.1.length : Int) + 1 := congrArg (fun z : Slt => z.2.2.2.2.2.1) hg
    have g7 : x.2.2.2.2.2.2.1 = k + 1 + 2 * (x.2.1.length : Int) + 1 + 2 * (x.2.2.2.1.length : Int) + 1 + 1 := congrArg (fun z : Slt => z.2.2.2.2.2.2.1) hg
    have g8 : x.2.2.2.2.2.2.2 = decide ((k + 1 + 2 * (x.2.1.length : Int) + 1 + 2 * (x.2.2.2.1.length : Int) + 1 + 1 + 1).tmod 3 = 0) := congrArg (fun z : Slt => z.2.2.2.2.2.2.2) hg
    have e1 : mHeldFieldS x.2.1 (k + 1) = k + 1 + 2 * (x.2.1.length : Int) := by
      have := held_mark x.2.1 (k + 1)
      rw [← g2] at this
      exact this
    have e2 : mHeldFieldS x.2.2.2.1 (k + 1 + 2 * (x.2.1.length : Int) + 1) = k + 1 + 2 * (x.2.1.length : Int) + 1 + 2 * (x.2.2.2.1.length : Int) := by
      have := held_mark x.2.2.2.1 (k + 1 + 2 * (x.2.1.length : Int) + 1)
      rw [← g4] at this
      exact this
    rw [wrap64 (n := k + 1) (by omega) (by omega), e1, wrap64 (n := k + 1 + 2 * (x.2.1.length : Int) + 1) (by omega) (by omega), e2, wrap64 (n := k + 1 + 2 * (x.2.1.length : Int) + 1 + 2 * (x.2.2.2.1.length : Int) + 1) (by omega) (by omega),
      wrap64 (n := k + 1 + 2 * (x.2.1.length : Int) + 1 + 2 * (x.2.2.2.1.length : Int) + 1 + 1) (by omega) (by omega), wrap64 (n := k + 1 + 2 * (x.2.1.length : Int) + 1 + 2 * (x.2.2.2.1.length : Int) + 1 + 1 + 1) (by omega) (by omega),
      wrap64 (n := k + 1 + 2 * (x.2.1.length : Int) + 1 + 2 * (x.2.2.2.1.length : Int) + 1 + 1 + 1 + 1) (by omega) (by omega), wrapS (by omega)]
    refine ⟨by omega, hlt, ⟨by omega, by omega⟩, fun hne => absurd g1 hne, fun _ => ⟨by omega, hlt, ⟨by omega, by omega, by omega⟩, fun hn => by omega, fun _ => ⟨by omega, hlt, fun hne => absurd g3 hne, fun _ => ⟨by omega, hlt, ⟨by omega, by omega, by omega⟩, fun hn => by omega, fun _ =>
      ⟨by omega, hlt, ⟨by omega, by omega⟩, fun hne => absurd g5 hne, fun _ => ⟨by omega, hlt, fun hne => absurd g6 hne, fun _ => ⟨by omega, hlt, fun hne => absurd g7 hne, fun _ => ⟨by omega, hlt, by decide, fun hne => absurd g8 hne, fun _ => ?_⟩⟩⟩⟩⟩⟩⟩⟩
    refine ih _ ⟨i + 1, by omega, rfl, ?_⟩ (by simp only [Int.toNat_natCast]; omega)
    simp only
    rw [hstep]
    omega
  · have hie : i = a0.length := by omega
    subst hie
    rw [List.take_of_length_le (Nat.le_refl _)] at hk
    exact hk
end Go.Ev
end

section
/- Laws of the plain library: ConnNew: marks of a connection that holds no rows. -/
set_option linter.unusedVariables false
namespace Go.Ev
end Go.Ev
end

section
/- Laws of the plain library: marks of caches; CacheFind, CacheHit. -/
set_option linter.unusedVariables false
set_option linter.unusedSimpArgs false
namespace Go.Ev
theorem laws_markShardS_ok (a0 : List Shd) (a1 : Int) (h : pMarkShardS a0 a1) : s_laws_markShardS a0 a1 (fun r y => r = mMarkShardS a0 a1 ∧ y = wMarkShardS a0 a1) := by
  obtain ⟨k0, k1⟩ := h
  have hlen : 3 * a0.length ≤ sumN (a0.map cntShd) := sum_ge_len (fun x => by unfold cntShd; omega) a0
  have hm := markL_length (f := markShd) (c := cntShd) a0 a1
  intro L hL
  refine loopI hL (fun y => ∃ i : Nat, i ≤ a0.length ∧ y.2.1 = (i : Int) ∧ y.1 = a1 + (sumN ((a0.take i).map cntShd) : Nat) ∧ y.2.2.length = a0.length ∧ y.2.2.take i = (markL markShd cntShd a0 a1).take i ∧ y.2.2.drop i = a0.drop i) (fun y => a0.length + 1 - y.2.1.toNat) (fun y hI ih => ?_) (a1, 0, a0) ⟨0, by omega, rfl, by simp [sumN], rfl, by simp, rfl⟩
  obtain ⟨k, i', xs⟩ := y
  obtain ⟨i, hi, hy, hk, hl, ht, hd⟩ := hI
  simp only at hy hk hl ht hd ⊢
  subst hy
  have hs := sum_take_le cntShd a0 i
  refine ⟨fun hlt => ?_, fun hge => ?_⟩
  · have hlt' : i < xs.length := by omega
    have hla : i < a0.length := by omega
    have hat := sum_at (c := cntShd) hla
    have hstep := sum_take_succ (c := cntShd) hla
    have hx : rx xs (i : Int) = a0[i] := by rw [rx_get _ hlt']; exact get_of_drop hd hlt' hla
    have rs : ∀ a : Shd, rx (xs.set i a) (i : Int) = a := fun a => rx_set hlt' a
    rw [hx]
    have hmk := markL_get (f := markShd) (c := cntShd) a0 a1 i hla
    rw [← hk] at hmk
    generalize a0[i] = x at hat hstep hmk
    have hc : cntShd x = 3 + sumN (x.2.2.1.map cntSlt) := rfl
    refine ⟨by omega, hlt, ?_⟩
    simp only [Int.toNat_natCast]
    rintro _ rfl
    simp only [rs, List.length_set, List.set_set]
    refine ⟨by omega, hlt, ?_⟩
    rintro _ rfl
    simp only [rs, List.length_set, List.set_set]
    refine ⟨by omega, hlt, ?_⟩
    rintro _ rfl
    rintro _ rfl
    simp only [rs, List.length_set, List.set_set]
    rw [wrap64 (n := k + 1) (by omega) (by omega), wrap64 (n := k + 1 + 1) (by omega) (by omega)]
    refine ⟨⟨by omega, by omega⟩, ?_⟩
    simp only [show mMarkSlotS x.2.2.1 (k + 1 + 1) = k + 1 + 1 + (sumN (x.2.2.1.map cntSlt) : Nat) from rfl, show (wMarkSlotS x.2.2.1 (k + 1 + 1)).1 = markL markSlt cntSlt x.2.2.1 (k + 1 + 1) from rfl]
    rintro _ rfl
    simp only [rs, List.length_set, List.set_set]
    rintro _ rfl
    refine ⟨by omega, hlt, ?_⟩
    rintro _ rfl
    rw [wrap64 (n := k + 1 + 1 + (sumN (x.2.2.1.map cntSlt) : Nat) + 1) (by omega) (by omega), wrapS (by omega)]
    refine ih _ ⟨i + 1, by omega, rfl, ?_, by simp [hl], ?_, ?_⟩ (by simp only [Int.toNat_natCast]; omega)
    · simp only
      rw [hstep]
      omega
    · exact take_set_succ hlt' (by omega) ht hmk
    · exact drop_set_succ hd
  · have hie : i = a0.length := by omega
    subst hie
    rw [List.take_of_length_le (by omega), List.take_of_length_le (by omega)] at ht
    rw [List.take_of_length_le (Nat.le_refl _)] at hk
    exact ⟨hk, by unfold wMarkShardS; rw [ht]⟩
theorem laws_heldShardS_ok (a0 : List Shd) (a1 : Int) (h : pHeldShardS a0 a1) : s_laws_heldShardS a0 a1 (fun r => r = mHeldShardS a0 a1) := by
  obtain ⟨⟨k0, k1⟩, hmk⟩ := h
  have hlen : 3 * a0.length ≤ sumN (a0.map cntShd) := sum_ge_len (fun x => by unfold cntShd; omega) a0
  intro L hL
  refine loopI hL (fun y => ∃ i : Nat, i ≤ a0.length ∧ y.2 = (i : Int) ∧ y.1 = a1 + (sumN ((a0.take i).map cntShd) : Nat)) (fun y => a0.length + 1 - y.2.toNat) (fun y hI ih => ?_) (a1, 0) ⟨0, by omega, rfl, by simp [sumN]⟩
  obtain ⟨k, i'⟩ := y
  obtain ⟨i, hi, hy, hk⟩ := hI
  simp only at hy hk ⊢
  subst hy
  have hs := sum_take_le cntShd a0 i
  refine ⟨fun hlt => ?_, fun hge => ?_⟩
  · have hla : i < a0.length := by omega
    have hat := sum_at (c := cntShd) hla
    have hstep := sum_take_succ (c := cntShd) hla
    have hg := marked_get hmk hla
    rw [← hk] at hg
    rw [rx_get _ hla]
    generalize a0[i] = x at hat hstep hg
    have hc : cntShd x = 3 + sumN (x.2.2.1.map cntSlt) := rfl
    have g1 : x.1 = k := congrArg (fun z : Shd => z.1) hg
    have g2 : x.2.1 = k + 1 := congrArg (fun z : Shd => z.2.1) hg
    have g3 : x.2.2.1 = markL markSlt cntSlt x.2.2.1 (k + 1 + 1) := congrArg (fun z : Shd => z.2.2.1) hg
    have g4 : x.2.2.2 = k + 1 + 1 + (sumN (x.2.2.1.map cntSlt) : Nat) := congrArg (fun z : Shd => z.2.2.2) hg
    have e1 : mHeldSlotS x.2.2.1 (k + 1 + 1) = k + 1 + 1 + (sumN (x.2.2.1.map cntSlt) : Nat) := rfl
    rw [wrap64 (n := k + 1) (by omega) (by omega), wrap64 (n := k + 1 + 1) (by omega) (by omega), e1, wrap64 (n := k + 1 + 1 + (sumN (x.2.2.1.map cntSlt) : Nat) + 1) (by omega) (by omega), wrapS (by omega)]
    refine ⟨by omega, hlt, fun hne => absurd g1 hne, fun _ => ⟨by omega, hlt, fun hne => absurd g2 hne, fun _ => ⟨by omega, hlt, ⟨⟨by omega, by omega⟩, g3.symm⟩, fun hn => by omega, fun _ => ⟨by omega, hlt, fun hne => absurd g4 hne, fun _ => ?_⟩⟩⟩⟩
    refine ih _ ⟨i + 1, by omega, rfl, ?_⟩ (by simp only [Int.toNat_natCast]; omega)
    simp only
    rw [hstep]
    omega
  · have hie : i = a0.length := by omega
    subst hie
    rw [List.take_of_length_le (Nat.le_refl _)] at hk
    exact hk
theorem laws_markGenRowS_ok (a0 : List Gen) (a1 : Int) (h : pMarkGenRowS a0 a1) : s_laws_markGenRowS a0 a1 (fun r y => r = mMarkGenRowS a0 a1 ∧ y = wMarkGenRowS a0 a1) := by
  obtain ⟨k0, k1⟩ := h
  have hsum := sum_gen a0
  have hm := markL_length (f := markGen) (c := cntGen) a0 a1
  intro L hL
  refine loopI hL (fun y => ∃ i : Nat, i ≤ a0.length ∧ y.2.1 = (i : Int) ∧ y.1 = a1 + (sumN ((a0.take i).map cntGen) : Nat) ∧ y.2.2.length = a0.length ∧ y.2.2.take i = (markL markGen cntGen a0 a1).take i) (fun y => a0.length + 1 - y.2.1.toNat) (fun y hI ih => ?_) (a1, 0, a0) ⟨0, by omega, rfl, by simp [sumN], rfl, by simp⟩
  obtain ⟨k, i', xs⟩ := y
  obtain ⟨i, hi, hy, hk, hl, ht⟩ := hI
  simp only at hy hk hl ht ⊢
  subst hy
  have hs := sum_take_le cntGen a0 i
  refine ⟨fun hlt => ?_, fun hge => ?_⟩
  · have hlt' : i < xs.length := by omega
    have hla : i < a0.length := by omega
    have hat := sum_at (c := cntGen) hla
    have hstep := sum_take_succ (c := cntGen) hla
    have rs : ∀ a : Gen, rx (xs.set i a) (i : Int) = a := fun a => rx_set hlt' a
    have hmk := markL_get (f := markGen) (c := cntGen) a0 a1 i hla
    rw [← hk] at hmk
    have hc : cntGen a0[i] = 2 := rfl
    simp only [Int.toNat_natCast, rs, List.length_set, List.set_set]
    rw [wrap64 (n := k + 1) (by omega) (by omega), wrap64 (n := k + 1 + 1) (by omega) (by omega), wrapS (by omega)]
    refine ⟨⟨by omega, by omega⟩, by omega, hlt, by omega, hlt, ?_⟩
    refine ih _ ⟨i + 1, by omega, rfl, ?_, by simp [hl], ?_⟩ (by simp only [Int.toNat_natCast]; omega)
    · simp only
      rw [hstep]
      omega
    · exact take_set_succ hlt' (by omega) ht hmk
  · have hie : i = a0.length := by omega
    subst hie
    rw [List.take_of_length_le (by omega), List.take_of_length_le (by omega)] at ht
    rw [List.take_of_length_le (Nat.le_refl _)] at hk
    exact ⟨hk, by unfold wMarkGenRowS; rw [ht]⟩
theorem laws_heldGenRowS_ok (a0 : List Gen) (a1 : Int) (h : pHeldGenRowS a0 a1) : s_laws_heldGenRowS a0 a1 (fun r => r = mHeldGenRowS a0 a1) := by
  obtain ⟨⟨k0, k1⟩, hmk⟩ := h
  have hsum := sum_gen a0
  intro L hL
  refine loopI hL (fun y => ∃ i : Nat, i ≤ a0.length ∧ y.2 = (i : Int) ∧ y.1 = a1 + (sumN ((a0.take i).map cntGen) : Nat)) (fun y => a0.length + 1 - y.2.toNat) (fun y hI ih => ?_) (a1, 0) ⟨0, by omega, rfl, by simp [sumN]⟩
  obtain ⟨k, i'⟩ := y
  obtain ⟨i, hi, hy, hk⟩ := hI
  simp only at hy hk ⊢
  subst hy
  have hs := sum_take_le cntGen a0 i
  refine ⟨fun hlt => ?_, fun hge => ?_⟩
  · have hla : i < a0.length := by omega
    have hat := sum_at (c := cntGen) hla
    have hstep := sum_take_succ (c := cntGen) hla
    have hg := marked_get hmk hla
    rw [← hk] at hg
    rw [rx_get _ hla]
    generalize a0[i] = x at hat hstep hg
    have hc : cntGen x = 2 := rfl
    have g1 : x.1 = mMarkText k := congrArg (fun z : Gen => z.1) hg
    have g2 : x.2 = k + 1 := congrArg (fun z : Gen => z.2) hg
    rw [wrap64 (n := k + 1) (by omega) (by omega), wrap64 (n := k + 1 + 1) (by omega) (by omega), wrapS (by omega)]
    refine ⟨by omega, hlt, ⟨by omega, by omega⟩, fun hne => absurd g1 hne, fun _ => ⟨by omega, hlt, fun hne => absurd g2 hne, fun _ => ?_⟩⟩
    refine ih _ ⟨i + 1, by omega, rfl, ?_⟩ (by simp only [Int.toNat_natCast]; omega)
    simp only
    rw [hstep]
    omega
  · have hie : i = a0.length := by omega
    subst hie
    rw [List.take_of_length_le (Nat.le_refl _)] at hk
    exact hk
theorem laws_markCache_ok (a0 : Cch) (a1 : Int) (h : pMarkCache a0 a1) : s_laws_markCache a0 a1 (fun r y => r = mMarkCache a0 a1 ∧ y = wMarkCache a0 a1) := by
  obtain ⟨k0, k1⟩ := h
  refine ⟨⟨by omega, by omega⟩, ⟨?_, ?_⟩, rfl, rfl⟩
  · unfold mMarkShardS; omega
  · unfold mMarkShardS; omega
theorem laws_heldCache_ok (a0 : Cch) (a1 : Int) (h : pHeldCache a0 a1) : s_laws_heldCache a0 a1 (fun r => r = mHeldCache a0 a1) := by
  obtain ⟨⟨k0, k1⟩, m1, m2⟩ := h
  have e1 : mHeldShardS a0.1 a1 = a1 + (sumN (a0.1.map cntShd) : Nat) := rfl
  have e2 : mHeldGenRowS a0.2 (mHeldShardS a0.1 a1) = a1 + (sumN (a0.1.map cntShd) : Nat) + (sumN (a0.2.map cntGen) : Nat) := rfl
  refine ⟨⟨⟨by omega, by omega⟩, m1⟩, fun hn => by omega, fun _ => ⟨⟨⟨by omega, by omega⟩, m2⟩, fun hn => by omega, fun _ => rfl⟩⟩
theorem wd_nil {α : Type} [Wd α] : wd ([] : List α) := ⟨Nat.zero_le _, fun j x hx => by simp at hx⟩
theorem wd_zero : wd (0 : Int) := by rw [wd_int]; unfold in64; omega
end Go.Ev
end

section
/- Laws of the plain library: CacheNew. -/
set_option linter.unusedVariables false
set_option linter.unusedSimpArgs false
namespace Go.Ev
theorem spec_ShardNew_ok (a0 a1 : Int) (h : pShardNew a0 a1) : s_spec_ShardNew a0 a1 (fun r => r = mShardNew a0 a1) := by
  unfold s_spec_ShardNew mShardNew mShardSizes
  refine ⟨trivial, fun h1 => ?_, fun h1 => ⟨trivial, fun h2 => ?_, fun h2 => ?_⟩⟩
  · simp [h1]
  · simp [h2]
  · have h1 := Classical.not_not.1 h1
    have h2 := Classical.not_not.1 h2
    simp [h1, h2]
theorem new_zero {a b : Int} : (mShardNew a b).1 = 0 ↔ ¬ mShardSizes a b = true := by
  unfold mShardNew
  split
  · next h =>
    unfold mShardSizes mIn at h
    simp only [Bool.and_eq_true, decide_eq_true_eq] at h
    constructor
    · intro h2
      have h2 : a = 0 := h2
      omega
    · intro h2
      exact absurd (by unfold mShardSizes mIn; simp only [Bool.and_eq_true, decide_eq_true_eq]; exact h) h2
  · next h => exact ⟨fun _ => h, fun _ => rfl⟩
theorem spec_CacheNew_ok (a0 a1 a2 : Int) (h : pCacheNew a0 a1 a2) : s_spec_CacheNew a0 a1 a2 (fun r => r = mCacheNew a0 a1 a2) := by
  refine ⟨trivial, fun h1 => by unfold mCacheNew; rw [if_neg (fun h => h1 h.1)], fun h1 => ⟨trivial, fun h2 => ?_, fun h2 => ?_⟩⟩
  · unfold mCacheNew
    rw [if_neg (fun h => new_zero.1 h2 h.2)]
  · have h1 := Classical.not_not.1 h1
    have hs : mShardSizes a1 a2 = true := Classical.not_not.1 fun h => h2 (new_zero.2 h)
    have e : mShardNew a1 a2 = (a1, a2, [], 0) := if_pos hs
    have hn : 1 ≤ a0 ∧ a0 ≤ 4 := by
      unfold mIn at h1
      simpa only [Bool.and_eq_true, decide_eq_true_eq] using h1
    intro L hL
    refine loopI hL (fun y => ∃ i : Nat, (i : Int) ≤ a0 ∧ y = ((i : Int), List.replicate i (a1, a2, [], 0), [])) (fun y => (a0 - y.1).toNat) (fun y hI ih => ?_) (0, [], []) ⟨0, by omega, rfl⟩
    obtain ⟨i, hi, rfl⟩ := hI
    refine ⟨fun hlt => ⟨trivial, ?_, ?_⟩, fun hge => ?_⟩
    · simp only [List.length_replicate, List.length_cons, List.length_nil]
      have hlt : (i : Int) < a0 := hlt
      omega
    · have hlt : (i : Int) < a0 := hlt
      rw [e]
      refine ih _ ⟨i + 1, by omega, ?_⟩ (by simp only; rw [wrap64 (n := (i : Int) + 1) (by omega) (by omega)]; omega)
      rw [wrap64 (n := (i : Int) + 1) (by omega) (by omega), ← List.replicate_succ']
      rfl
    · have hge : ¬ (i : Int) < a0 := hge
      unfold mCacheNew
      rw [if_pos ⟨h1, hs⟩]
      have : a0.toNat = i := by omega
      rw [this]
theorem new_facts {n a b : Int} (ha : wd a) (hb : wd b) : sumN ((mCacheNew n a b).1.map cntShd) + sumN ((mCacheNew n a b).2.map cntGen) ≤ 12 ∧ wd (mCacheNew n a b) := by
  unfold mCacheNew
  split
  · next h =>
    have hn : 1 ≤ n ∧ n ≤ 4 := by
      have := h.1
      unfold mIn at this
      simpa only [Bool.and_eq_true, decide_eq_true_eq] using this
    refine ⟨?_, ⟨?_, fun i x hx => ?_⟩, wd_nil⟩
    · have h4 : n.toNat = 1 ∨ n.toNat = 2 ∨ n.toNat = 3 ∨ n.toNat = 4 := by omega
      rcases h4 with h4 | h4 | h4 | h4 <;> rw [h4] <;> exact Nat.le_of_ble_eq_true rfl
    · show (List.replicate n.toNat _).length ≤ _
      rw [List.length_replicate]
      simp only [maxLen]
      omega
    · have hx' : (List.replicate n.toNat ((a, b, [], 0) : Shd))[i]? = some x := hx
      have := List.eq_of_mem_replicate (List.mem_of_getElem? hx')
      subst this
      exact ⟨ha, hb, wd_nil, wd_zero⟩
  · exact ⟨Nat.zero_le _, wd_nil, wd_nil⟩
def p_FnExactCacheNew (a0 a1 a2 : Int) : Prop := wd a0 ∧ wd a1 ∧ wd a2
theorem laws_FnExactCacheNew_ok (a0 a1 a2 : Int) (h : p_FnExactCacheNew a0 a1 a2) : s_laws_FnExactCacheNew a0 a1 a2 (fun r => r = true) := by
  obtain ⟨w0, w1, w2⟩ := h
  obtain ⟨c1, pw⟩ := new_facts (n := a0) w1 w2
  have hp : pCacheNew a0 a1 a2 := trivial
  unfold s_laws_FnExactCacheNew
  generalize mCacheNew a0 a1 a2 = r at pw c1 hp
  have hm : pMarkCache r 1 := ⟨by omega, by omega⟩
  have s1 : sumN ((markL markShd cntShd r.1 1).map cntShd) = sumN (r.1.map cntShd) := markL_cnt cnt_markShd _ _
  have s2 : ∀ k, sumN ((markL markGen cntGen r.2 k).map cntGen) = sumN (r.2.map cntGen) := fun k => markL_cnt (f := markGen) (c := cntGen) (fun _ _ => rfl) _ _
  have e1 : mHeldShardS (wMarkCache r 1).1.1 1 = mMarkShardS r.1 1 := by
    show 1 + ((sumN ((markL markShd cntShd r.1 1).map cntShd) : Nat) : Int) = 1 + ((sumN (r.1.map cntShd) : Nat) : Int)
    rw [s1]
  have hh : pHeldCache (wMarkCache r 1).1 1 := by
    refine ⟨⟨by omega, ?_⟩, markL_idem cnt_markShd markShd_idem _ _, ?_⟩
    · show 1 + ((sumN ((markL markShd cntShd r.1 1).map cntShd) + sumN ((markL markGen cntGen r.2 (mMarkShardS r.1 1)).map cntGen) : Nat) : Int) ≤ _
      rw [s1, s2]
      omega
    · rw [e1]
      exact markL_idem (f := markGen) (c := cntGen) (fun _ _ => rfl) (fun _ _ => rfl) _ _
  have he : mHeldCache (wMarkCache r 1).1 1 = mMarkCache r 1 := by
    show mHeldShardS (wMarkCache r 1).1.1 1 + ((sumN ((markL markGen cntGen r.2 (mMarkShardS r.1 1)).map cntGen) : Nat) : Int) = mMarkShardS r.1 1 + ((sumN (r.2.map cntGen) : Nat) : Int)
    rw [e1, s2]
  have hge : ¬ mHeldCache (wMarkCache r 1).1 1 < 0 := by
    rw [he]
    show ¬ (1 + ((sumN (r.1.map cntShd) : Nat) : Int) + ((sumN (r.2.map cntGen) : Nat) : Int) < 0)
    omega
  have eqs : ∀ {α : Type} [DecidableEq α] (x : α), ¬ (eqF x x = true) → False := fun x hne => hne (eqF_iff.2 rfl)
  exact ⟨hp, hp, pw, fun hne => (eqs _ hne).elim, fun _ => ⟨hm, hh, fun hl => absurd hl hge, fun _ => ⟨fun hne => absurd he hne, fun _ => ⟨hp, pw, fun hne => (eqs _ hne).elim, fun _ => ⟨hh, fun hl => absurd hl hge, fun _ => ⟨fun hne => absurd he hne, fun _ => rfl⟩⟩⟩⟩⟩⟩
end Go.Ev
end

section
/- Laws of the plain library, fifth part: lists in texts. -/
set_option linter.unusedVariables false
namespace Go.Ev

end Go.Ev
end

section
/- Laws of the plain library: lists of parts, as spec takes them. -/
set_option linter.unusedVariables false
namespace Go.Ev
end Go.Ev
end

section
/- Laws of the plain library: directives. -/
set_option linter.unusedVariables false
namespace Go.Ev
end Go.Ev
end

section
/- Laws of the plain library: what may be stored, what may be shared. -/
set_option linter.unusedVariables false
namespace Go.Ev
end Go.Ev
end

section
set_option linter.unusedVariables false
namespace Go.Proofs.Ytdglpinlegnjkaa.Ap
open Go Go.Ev Go.Proofs Go.RowKit
abbrev ls3 : List L := [.int .i64]
abbrev ls4 : List L := [.bool]
abbrev ls9 : List L := [.str]
abbrev ls22 : List L := [.list 32 [.int .i64, .int .i64, .list 62 [.str, .list 67 [.str, .str], .int .i64, .list 67 [.str, .str], .str, .int .i64, .int .i64, .bool], .int .i64]]
abbrev ls23 : List L := [.list 46 [.str, .int .i64]]
abbrev ls25 : List L := [.list 32 [.int .i64, .int .i64, .list 62 [.str, .list 67 [.str, .str], .int .i64, .list 67 [.str, .str], .str, .int .i64, .int .i64, .bool], .int .i64], .list 46 [.str, .int .i64]]
abbrev ls30 : List L := [.list 62 [.str, .list 67 [.str, .str], .int .i64, .list 67 [.str, .str], .str, .int .i64, .int .i64, .bool]]
abbrev ls32 : List L := [.int .i64, .int .i64, .list 62 [.str, .list 67 [.str, .str], .int .i64, .list 67 [.str, .str], .str, .int .i64, .int .i64, .bool], .int .i64]
abbrev ls46 : List L := [.str, .int .i64]
abbrev ls56 : List L := [.list 67 [.str, .str]]
abbrev ls58 : List L := [.int .i64, .list 67 [.str, .str], .str]
abbrev ls60 : List L := [.str, .list 67 [.str, .str], .int .i64, .list 67 [.str, .str], .str, .int .i64, .int .i64]
abbrev ls62 : List L := [.str, .list 67 [.str, .str], .int .i64, .list 67 [.str, .str], .str, .int .i64, .int .i64, .bool]
abbrev ls67 : List L := [.str, .str]
def tt : List (Nat × TI) := [
 (2, ⟨.sc, [.int .i64]⟩),
 (3, ⟨.sc, [.int .i64]⟩),
 (4, ⟨.sc, [.bool]⟩),
 (5, ⟨.sc, [.int .u8]⟩),
 (6, ⟨.sc, [.int .u8]⟩),
 (7, ⟨.st [(0, [.int .i64]), (1, [.int .i64]), (2, [.bool]), (3, [.int .u8])], [.int .i64, .int .i64, .bool, .int .u8]⟩),
 (8, ⟨.st [(0, [.int .i64]), (1, [.int .i64]), (2, [.bool]), (3, [.int .u8])], [.int .i64, .int .i64, .bool, .int .u8]⟩),
 (9, ⟨.sc, [.str]⟩),
 (10, ⟨.sc, [.str]⟩),
 (11, ⟨.sc, [.str]⟩),
 (12, ⟨.sc, [.int .u64]⟩),
 (13, ⟨.st [(0, [.str]), (1, [.int .u64])], [.str, .int .u64]⟩),
 (14, ⟨.st [(0, [.str]), (1, [.int .u64])], [.str, .int .u64]⟩),
 (21, ⟨.sc, [.int .i32]⟩),
 (22, ⟨.sl 32 [.int .i64, .int .i64, .list 62 [.str, .list 67 [.str, .str], .int .i64, .list 67 [.str, .str], .str, .int .i64, .int .i64, .bool], .int .i64] 48, [.list 32 [.int .i64, .int .i64, .list 62 [.str, .list 67 [.str, .str], .int .i64, .list 67 [.str, .str], .str, .int .i64, .int .i64, .bool], .int .i64]]⟩),
 (23, ⟨.sl 46 [.str, .int .i64] 24, [.list 46 [.str, .int .i64]]⟩),
 (24, ⟨.st [(0, [.list 32 [.int .i64, .int .i64, .list 62 [.str, .list 67 [.str, .str], .int .i64, .list 67 [.str, .str], .str, .int .i64, .int .i64, .bool], .int .i64]]), (1, [.list 46 [.str, .int .i64]])], [.list 32 [.int .i64, .int .i64, .list 62 [.str, .list 67 [.str, .str], .int .i64, .list 67 [.str, .str], .str, .int .i64, .int .i64, .bool], .int .i64], .list 46 [.str, .int .i64]]⟩),
 (25, ⟨.st [(0, [.list 32 [.int .i64, .int .i64, .list 62 [.str, .list 67 [.str, .str], .int .i64, .list 67 [.str, .str], .str, .int .i64, .int .i64, .bool], .int .i64]]), (1, [.list 46 [.str, .int .i64]])], [.list 32 [.int .i64, .int .i64, .list 62 [.str, .list 67 [.str, .str], .int .i64, .list 67 [.str, .str], .str, .int .i64, .int .i64, .bool], .int .i64], .list 46 [.str, .int .i64]]⟩),
 (30, ⟨.sl 62 [.str, .list 67 [.str, .str], .int .i64, .list 67 [.str, .str], .str, .int .i64, .int .i64, .bool] 112, [.list 62 [.str, .list 67 [.str, .str], .int .i64, .list 67 [.str, .str], .str, .int .i64, .int .i64, .bool]]⟩),
 (31, ⟨.st [(0, [.int .i64]), (1, [.int .i64]), (2, [.list 62 [.str, .list 67 [.str, .str], .int .i64, .list 67 [.str, .str], .str, .int .i64, .int .i64, .bool]]), (3, [.int .i64])], [.int .i64, .int .i64, .list 62 [.str, .list 67 [.str, .str], .int .i64, .list 67 [.str, .str], .str, .int .i64, .int .i64, .bool], .int .i64]⟩),
 (32, ⟨.st [(0, [.int .i64]), (1, [.int .i64]), (2, [.list 62 [.str, .list 67 [.str, .str], .int .i64, .list 67 [.str, .str], .str, .int .i64, .int .i64, .bool]]), (3, [.int .i64])], [.int .i64, .int .i64, .list 62 [.str, .list 67 [.str, .str], .int .i64, .list 67 [.str, .str], .str, .int .i64, .int .i64, .bool], .int .i64]⟩),
 (40, ⟨.sc, [.int .u64]⟩),
 (45, ⟨.st [(0, [.str]), (1, [.int .i64])], [.str, .int .i64]⟩),
 (46, ⟨.st [(0, [.str]), (1, [.int .i64])], [.str, .int .i64]⟩),
 (49, ⟨.sc, [.int .u32]⟩),
 (52, ⟨.sc, [.int .u64]⟩),
 (56, ⟨.sl 67 [.str, .str] 32, [.list 67 [.str, .str]]⟩),
 (57, ⟨.st [(0, [.int .i64]), (1, [.list 67 [.str, .str]]), (2, [.str])], [.int .i64, .list 67 [.str, .str], .str]⟩),
 (58, ⟨.st [(0, [.int .i64]), (1, [.list 67 [.str, .str]]), (2, [.str])], [.int .i64, .list 67 [.str, .str], .str]⟩),
 (59, ⟨.st [(0, [.str]), (1, [.list 67 [.str, .str]]), (2, [.int .i64, .list 67 [.str, .str], .str]), (5, [.int .i64]), (6, [.int .i64])], [.str, .list 67 [.str, .str], .int .i64, .list 67 [.str, .str], .str, .int .i64, .int .i64]⟩),
 (60, ⟨.st [(0, [.str]), (1, [.list 67 [.str, .str]]), (2, [.int .i64, .list 67 [.str, .str], .str]), (5, [.int .i64]), (6, [.int .i64])], [.str, .list 67 [.str, .str], .int .i64, .list 67 [.str, .str], .str, .int .i64, .int .i64]⟩),
 (61, ⟨.st [(0, [.str, .list 67 [.str, .str], .int .i64, .list 67 [.str, .str], .str, .int .i64, .int .i64]), (7, [.bool])], [.str, .list 67 [.str, .str], .int .i64, .list 67 [.str, .str], .str, .int .i64, .int .i64, .bool]⟩),
 (62, ⟨.st [(0, [.str, .list 67 [.str, .str], .int .i64, .list 67 [.str, .str], .str, .int .i64, .int .i64]), (7, [.bool])], [.str, .list 67 [.str, .str], .int .i64, .list 67 [.str, .str], .str, .int .i64, .int .i64, .bool]⟩),
 (64, ⟨.sl 5 [.int .u8] 1, [.list 5 [.int .u8]]⟩),
 (66, ⟨.st [(0, [.str]), (1, [.str])], [.str, .str]⟩),
 (67, ⟨.st [(0, [.str]), (1, [.str])], [.str, .str]⟩),
 (79, ⟨.sc, [.int .u8]⟩),
 (80, ⟨.sc, [.int .u8]⟩),
 (83, ⟨.sc, [.int .i32]⟩),
 (84, ⟨.sc, [.int .i32]⟩)]
theorem ttOk : ttB Try.prog tt = true := by kernel_rfl
theorem mixOk : Try.prog.follows .mixedOrders = true := by kernel_rfl
def J (_ : World) : Prop := True
theorem J_below {w w' : World} (h : J w) (_ : Below w.heap.size w w') : J w' := trivial
def Jn (n : Nat) (w : World) : Prop := ∃ w0 : World, w0.heap.size = n ∧ J w0 ∧ Below n w0 w
theorem Jn_J {n : Nat} {w : World} (h : Jn n w) : J w := by
  obtain ⟨w0, rfl, h1, h2⟩ := h
  exact J_below h1 h2
theorem Jn_below {n : Nat} {w w' : World} (h : Jn n w) (hb : Below n w w') : Jn n w' := by
  obtain ⟨w0, h0, h1, h2⟩ := h
  exact ⟨w0, h0, h1, h2.trans hb⟩
theorem Jn_of {w w' : World} (h : J w) (hb : Below w.heap.size w w') : Jn w.heap.size w' := ⟨w, rfl, h, hb⟩
noncomputable def E9 : Env := { tt, eqs := [], cts := [] }
theorem ok9 : EnvOk Try.prog E9 := ⟨ttOk, by kernel_rfl, rfl, mixOk⟩
theorem cs9 (w0 : World) (hJ : J w0) : EnvCts Try.prog E9 w0 w0.heap.size := by
  refine ⟨fun c hc => ?_, fun c hc => ?_⟩
  · cases hc
  · cases hc
noncomputable def ct9 : Ct := { f := 9, ps := [.v false .ro ls3, .v false .ro ls3, .v false .ro ls3], rs := [(false, ls4)], shared := false, pre := fun (x : Int × Int × Int) => pIn x.1 x.2.1 x.2.2, F := fun (x : Int × Int × Int) => mIn x.1 x.2.1 x.2.2 }
theorem law9 : ∀ x : Int × Int × Int, pIn x.1 x.2.1 x.2.2 → s_spec_l1In x.1 x.2.1 x.2.2 (fun r => r = mIn x.1 x.2.1 x.2.2) := fun x _ => spec_l1In_ok x.1 x.2.1 x.2.2
theorem all9 (w : World) (hJ : J w) : CtAt Try.prog ct9 w :=
  ct_by ok9 (cs9 w hJ) Try.func9 (by kernel_rfl) (H := (hint [])) law9 (by kernel_rfl)
noncomputable def E10 : Env := { tt, eqs := [], cts := [ct9], deep := true }
theorem ok10 : EnvOk Try.prog E10 := ⟨ttOk, by kernel_rfl, rfl, mixOk⟩
theorem cs10 (w0 : World) (hJ : J w0) : EnvCts Try.prog E10 w0 w0.heap.size := by
  refine ⟨fun c hc => ?_, fun c hc => ?_⟩
  · rcases List.mem_cons.1 hc with rfl | hc
    · exact fun w hb => all9 w (J_below hJ hb)
    cases hc
  · cases hc
noncomputable def ct10 : Ct := { f := 10, ps := [.v false .ro ls3, .v false .ro ls3], rs := [(true, ls32)], shared := false, pre := fun (x : Int × Int) => pShardNew x.1 x.2, F := fun (x : Int × Int) => mShardNew x.1 x.2, deep := true }
theorem law10 : ∀ x : Int × Int, pShardNew x.1 x.2 → s_spec_ShardNew x.1 x.2 (fun r => r = mShardNew x.1 x.2) := fun x h => spec_ShardNew_ok x.1 x.2 h
theorem all10 (w : World) (hJ : J w) : CtAt Try.prog ct10 w :=
  ct_by ok10 (cs10 w hJ) Try.func10 (by kernel_rfl) (H := (hint [])) law10 (by kernel_rfl)
noncomputable def E4 : Env := { tt, eqs := [], cts := [ct9, ct10], deep := true, ft := [(32, [3, 3, 30, 3])] }
theorem ok4 : EnvOk Try.prog E4 := ⟨ttOk, by kernel_rfl, by kernel_rfl, mixOk⟩
theorem cs4 (w0 : World) (hJ : J w0) : EnvCts Try.prog E4 w0 w0.heap.size := by
  refine ⟨fun c hc => ?_, fun c hc => ?_⟩
  · rcases List.mem_cons.1 hc with rfl | hc
    · exact fun w hb => all9 w (J_below hJ hb)
    rcases List.mem_cons.1 hc with rfl | hc
    · exact fun w hb => all10 w (J_below hJ hb)
    cases hc
  · cases hc
noncomputable def ct4 : Ct := { f := 4, ps := [.v false .ro ls3, .v false .ro ls3, .v false .ro ls3], rs := [(true, ls25)], shared := false, pre := fun (x : Int × Int × Int) => pCacheNew x.1 x.2.1 x.2.2, F := fun (x : Int × Int × Int) => mCacheNew x.1 x.2.1 x.2.2, deep := true }
theorem law4 : ∀ x : Int × Int × Int, pCacheNew x.1 x.2.1 x.2.2 → s_spec_CacheNew x.1 x.2.1 x.2.2 (fun r => r = mCacheNew x.1 x.2.1 x.2.2) := fun x h => spec_CacheNew_ok x.1 x.2.1 x.2.2 h
theorem all4 (w : World) (hJ : J w) : CtAt Try.prog ct4 w :=
  ct_by ok4 (cs4 w hJ) Try.func4 (by kernel_rfl) (H := (hint [(5, [.val 8 (.int .i64), .breg 7 0 32 [.int .i64, .int .i64, .list 62 [.str, .list 67 [.str, .str], .int .i64, .list 67 [.str, .str], .str, .int .i64, .int .i64, .bool], .int .i64] true, .breg 7 1 46 [.str, .int .i64]])])) law4 (by kernel_rfl)
noncomputable def ct5 : Ct := { f := 5, ps := [.v false .ro ls3, .v false .ro ls3, .v false .ro ls3], rs := [(true, ls25)], shared := false, pre := fun (x : Int × Int × Int) => pCacheNew x.1 x.2.1 x.2.2, F := fun (x : Int × Int × Int) => mCacheNew x.1 x.2.1 x.2.2, deep := true }
theorem all5 (w : World) (hJ : J w) : CtAt Try.prog ct5 w := cn_ct w
noncomputable def E36 : Env := { tt, eqs := [], cts := [] }
theorem ok36 : EnvOk Try.prog E36 := ⟨ttOk, by kernel_rfl, rfl, mixOk⟩
theorem cs36 (w0 : World) (hJ : J w0) : EnvCts Try.prog E36 w0 w0.heap.size := by
  refine ⟨fun c hc => ?_, fun c hc => ?_⟩
  · cases hc
  · cases hc
noncomputable def ct36 : Ct := { f := 36, ps := [.v true .ro ls67, .v true .ro ls67], rs := [(false, [.bool])], shared := false, pre := fun (q : Fld × Fld) => pEq q.1 q.2, F := fun (q : Fld × Fld) => eqF q.1 q.2 }
def st36 : List (EqStep Fld) := [.ne (fun (x y : Fld) => x.1 ≠ y.1), .ne (fun (x y : Fld) => x.2 ≠ y.2)]
def mk36 (a0 : S) (a1 : S) : Fld := (a0, a1)
theorem a36 (x y : Fld) : eqAll x y st36 ↔ x = y := by
  constructor
  · rintro ⟨h0, h1, -⟩
    have h0 : x.1 = y.1 := Classical.byContradiction h0
    have h1 : x.2 = y.2 := Classical.byContradiction h1
    show mk36 (x.1) (x.2) = mk36 (y.1) (y.2)
    rw [h0, h1]
    all_goals rfl
  · rintro rfl
    exact ⟨fun h => h rfl, fun h => h rfl, trivial⟩
theorem w36 (x y : Fld) (h : wd x) : eqFine x y st36 := by
  first | simp only [wd_pair] at h | skip
  simp only [eqFine, st36, wd_pair]
  all_goals simp only [h, and_self]
theorem law36 : ∀ q : Fld × Fld, pEq q.1 q.2 → eqSt q.1 q.2 st36 (fun r => r = eqF q.1 q.2) := fun q hq => eqSt_holds q.1 q.2 st36 (w36 q.1 q.2 hq) (eqF_iff.trans (a36 q.1 q.2).symm)
theorem all36 (w : World) (hJ : J w) : CtAt Try.prog ct36 w :=
  ct_by ok36 (cs36 w hJ) Try.func36 (by kernel_rfl) (H := (hint [])) law36 (by kernel_rfl)
noncomputable def E34 : Env := { tt, eqs := [], cts := [ct36] }
theorem ok34 : EnvOk Try.prog E34 := ⟨ttOk, by kernel_rfl, rfl, mixOk⟩
theorem cs34 (w0 : World) (hJ : J w0) : EnvCts Try.prog E34 w0 w0.heap.size := by
  refine ⟨fun c hc => ?_, fun c hc => ?_⟩
  · rcases List.mem_cons.1 hc with rfl | hc
    · exact fun w hb => all36 w (J_below hJ hb)
    cases hc
  · cases hc
noncomputable def ct34 : Ct := { f := 34, ps := [.v false .ro ls56, .v false .ro ls56], rs := [(false, [.bool])], shared := false, pre := fun (q : (List Fld) × (List Fld)) => pEq q.1 q.2, F := fun (q : (List Fld) × (List Fld)) => eqF q.1 q.2 }
theorem law34 : ∀ q : (List Fld) × (List Fld), pEq q.1 q.2 → eqS (α := Fld) Dft.dft (fun a b => pEq a b) (fun a b => eqF a b) q.1 q.2 (fun r => r = eqF q.1 q.2) := fun q hq => eqS_holds (α := Fld) Dft.dft (fun a b => pEq a b) (fun a b => eqF a b) q.1 q.2 hq.1 (fun i a _ h => hq.2 i a h) (fun _ _ => eqF_iff) eqF_iff
theorem all34 (w : World) (hJ : J w) : CtAt Try.prog ct34 w :=
  ct_by ok34 (cs34 w hJ) Try.func34 (by kernel_rfl) (H := (hint [(4, [.val 5 (.int .i64)])])) law34 (by kernel_rfl)
noncomputable def E35 : Env := { tt, eqs := [], cts := [ct34] }
theorem ok35 : EnvOk Try.prog E35 := ⟨ttOk, by kernel_rfl, rfl, mixOk⟩
theorem cs35 (w0 : World) (hJ : J w0) : EnvCts Try.prog E35 w0 w0.heap.size := by
  refine ⟨fun c hc => ?_, fun c hc => ?_⟩
  · rcases List.mem_cons.1 hc with rfl | hc
    · exact fun w hb => all34 w (J_below hJ hb)
    cases hc
  · cases hc
noncomputable def ct35 : Ct := { f := 35, ps := [.v true .ro ls58, .v true .ro ls58], rs := [(false, [.bool])], shared := false, pre := fun (q : Rsp × Rsp) => pEq q.1 q.2, F := fun (q : Rsp × Rsp) => eqF q.1 q.2 }
def st35 : List (EqStep Rsp) := [.ne (fun (x y : Rsp) => x.1 ≠ y.1), .call (fun (x _ : Rsp) => wd (x.2.1 : (List Fld))) (fun (x y : Rsp) => eqF (x.2.1 : (List Fld)) y.2.1), .ne (fun (x y : Rsp) => x.2.2 ≠ y.2.2)]
def mk35 (a0 : Int) (a1 : (List Fld)) (a2 : S) : Rsp := (a0, a1, a2)
theorem a35 (x y : Rsp) : eqAll x y st35 ↔ x = y := by
  constructor
  · rintro ⟨h0, h1, h2, -⟩
    have h0 : x.1 = y.1 := Classical.byContradiction h0
    have h1 : (x.2.1 : (List Fld)) = y.2.1 := eqF_iff.1 h1
    have h2 : x.2.2 = y.2.2 := Classical.byContradiction h2
    show mk35 (x.1) (x.2.1) (x.2.2) = mk35 (y.1) (y.2.1) (y.2.2)
    rw [h0, h1, h2]
    all_goals rfl
  · rintro rfl
    exact ⟨fun h => h rfl, eqF_iff.2 rfl, fun h => h rfl, trivial⟩
theorem w35 (x y : Rsp) (h : wd x) : eqFine x y st35 := by
  first | simp only [wd_pair] at h | skip
  simp only [eqFine, st35, wd_pair]
  all_goals simp only [h, and_self]
theorem law35 : ∀ q : Rsp × Rsp, pEq q.1 q.2 → eqSt q.1 q.2 st35 (fun r => r = eqF q.1 q.2) := fun q hq => eqSt_holds q.1 q.2 st35 (w35 q.1 q.2 hq) (eqF_iff.trans (a35 q.1 q.2).symm)
theorem all35 (w : World) (hJ : J w) : CtAt Try.prog ct35 w :=
  ct_by ok35 (cs35 w hJ) Try.func35 (by kernel_rfl) (H := (hint [])) law35 (by kernel_rfl)
noncomputable def E33 : Env := { tt, eqs := [], cts := [ct34, ct35] }
theorem ok33 : EnvOk Try.prog E33 := ⟨ttOk, by kernel_rfl, rfl, mixOk⟩
theorem cs33 (w0 : World) (hJ : J w0) : EnvCts Try.prog E33 w0 w0.heap.size := by
  refine ⟨fun c hc => ?_, fun c hc => ?_⟩
  · rcases List.mem_cons.1 hc with rfl | hc
    · exact fun w hb => all34 w (J_below hJ hb)
    rcases List.mem_cons.1 hc with rfl | hc
    · exact fun w hb => all35 w (J_below hJ hb)
    cases hc
  · cases hc
noncomputable def ct33 : Ct := { f := 33, ps := [.v true .ro ls60, .v true .ro ls60], rs := [(false, [.bool])], shared := false, pre := fun (q : Sto × Sto) => pEq q.1 q.2, F := fun (q : Sto × Sto) => eqF q.1 q.2 }
def st33 : List (EqStep Sto) := [.ne (fun (x y : Sto) => x.1 ≠ y.1), .call (fun (x _ : Sto) => wd (x.2.1 : (List Fld))) (fun (x y : Sto) => eqF (x.2.1 : (List Fld)) y.2.1), .call (fun (x _ : Sto) => wd ((x.2.2.1, x.2.2.2.1, x.2.2.2.2.1) : Rsp)) (fun (x y : Sto) => eqF ((x.2.2.1, x.2.2.2.1, x.2.2.2.2.1) : Rsp) (y.2.2.1, y.2.2.2.1, y.2.2.2.2.1)), .ne (fun (x y : Sto) => x.2.2.2.2.2.1 ≠ y.2.2.2.2.2.1), .ne (fun (x y : Sto) => x.2.2.2.2.2.2 ≠ y.2.2.2.2.2.2)]
def mk33 (a0 : S) (a1 : (List Fld)) (a2 : Rsp) (a3 : Int) (a4 : Int) : Sto := (a0, a1, a2.1, a2.2.1, a2.2.2, a3, a4)
theorem a33 (x y : Sto) : eqAll x y st33 ↔ x = y := by
  constructor
  · rintro ⟨h0, h1, h2, h3, h4, -⟩
    have h0 : x.1 = y.1 := Classical.byContradiction h0
    have h1 : (x.2.1 : (List Fld)) = y.2.1 := eqF_iff.1 h1
    have h2 : ((x.2.2.1, x.2.2.2.1, x.2.2.2.2.1) : Rsp) = (y.2.2.1, y.2.2.2.1, y.2.2.2.2.1) := eqF_iff.1 h2
    have h3 : x.2.2.2.2.2.1 = y.2.2.2.2.2.1 := Classical.byContradiction h3
    have h4 : x.2.2.2.2.2.2 = y.2.2.2.2.2.2 := Classical.byContradiction h4
    show mk33 (x.1) (x.2.1) ((x.2.2.1, x.2.2.2.1, x.2.2.2.2.1)) (x.2.2.2.2.2.1) (x.2.2.2.2.2.2) = mk33 (y.1) (y.2.1) ((y.2.2.1, y.2.2.2.1, y.2.2.2.2.1)) (y.2.2.2.2.2.1) (y.2.2.2.2.2.2)
    rw [h0, h1, h2, h3, h4]
    all_goals rfl
  · rintro rfl
    exact ⟨fun h => h rfl, eqF_iff.2 rfl, eqF_iff.2 rfl, fun h => h rfl, fun h => h rfl, trivial⟩
theorem w33 (x y : Sto) (h : wd x) : eqFine x y st33 := by
  first | simp only [wd_pair] at h | skip
  simp only [eqFine, st33, wd_pair]
  all_goals simp only [h, and_self]
theorem law33 : ∀ q : Sto × Sto, pEq q.1 q.2 → eqSt q.1 q.2 st33 (fun r => r = eqF q.1 q.2) := fun q hq => eqSt_holds q.1 q.2 st33 (w33 q.1 q.2 hq) (eqF_iff.trans (a33 q.1 q.2).symm)
theorem all33 (w : World) (hJ : J w) : CtAt Try.prog ct33 w :=
  ct_by ok33 (cs33 w hJ) Try.func33 (by kernel_rfl) (H := (hint [])) law33 (by kernel_rfl)
noncomputable def E32 : Env := { tt, eqs := [], cts := [ct33] }
theorem ok32 : EnvOk Try.prog E32 := ⟨ttOk, by kernel_rfl, rfl, mixOk⟩
theorem cs32 (w0 : World) (hJ : J w0) : EnvCts Try.prog E32 w0 w0.heap.size := by
  refine ⟨fun c hc => ?_, fun c hc => ?_⟩
  · rcases List.mem_cons.1 hc with rfl | hc
    · exact fun w hb => all33 w (J_below hJ hb)
    cases hc
  · cases hc
noncomputable def ct32 : Ct := { f := 32, ps := [.v true .ro ls62, .v true .ro ls62], rs := [(false, [.bool])], shared := false, pre := fun (q : Slt × Slt) => pEq q.1 q.2, F := fun (q : Slt × Slt) => eqF q.1 q.2 }
def st32 : List (EqStep Slt) := [.call (fun (x _ : Slt) => wd ((x.1, x.2.1, x.2.2.1, x.2.2.2.1, x.2.2.2.2.1, x.2.2.2.2.2.1, x.2.2.2.2.2.2.1) : Sto)) (fun (x y : Slt) => eqF ((x.1, x.2.1, x.2.2.1, x.2.2.2.1, x.2.2.2.2.1, x.2.2.2.2.2.1, x.2.2.2.2.2.2.1) : Sto) (y.1, y.2.1, y.2.2.1, y.2.2.2.1, y.2.2.2.2.1, y.2.2.2.2.2.1, y.2.2.2.2.2.2.1)), .ne (fun (x y : Slt) => x.2.2.2.2.2.2.2 ≠ y.2.2.2.2.2.2.2)]
def mk32 (a0 : Sto) (a1 : Bool) : Slt := (a0.1, a0.2.1, a0.2.2.1, a0.2.2.2.1, a0.2.2.2.2.1, a0.2.2.2.2.2.1, a0.2.2.2.2.2.2, a1)
theorem a32 (x y : Slt) : eqAll x y st32 ↔ x = y := by
  constructor
  · rintro ⟨h0, h1, -⟩
    have h0 : ((x.1, x.2.1, x.2.2.1, x.2.2.2.1, x.2.2.2.2.1, x.2.2.2.2.2.1, x.2.2.2.2.2.2.1) : Sto) = (y.1, y.2.1, y.2.2.1, y.2.2.2.1, y.2.2.2.2.1, y.2.2.2.2.2.1, y.2.2.2.2.2.2.1) := eqF_iff.1 h0
    have h1 : x.2.2.2.2.2.2.2 = y.2.2.2.2.2.2.2 := Classical.byContradiction h1
    show mk32 ((x.1, x.2.1, x.2.2.1, x.2.2.2.1, x.2.2.2.2.1, x.2.2.2.2.2.1, x.2.2.2.2.2.2.1)) (x.2.2.2.2.2.2.2) = mk32 ((y.1, y.2.1, y.2.2.1, y.2.2.2.1, y.2.2.2.2.1, y.2.2.2.2.2.1, y.2.2.2.2.2.2.1)) (y.2.2.2.2.2.2.2)
    rw [h0, h1]
    all_goals rfl
  · rintro rfl
    exact ⟨eqF_iff.2 rfl, fun h => h rfl, trivial⟩
theorem w32 (x y : Slt) (h : wd x) : eqFine x y st32 := by
  first | simp only [wd_pair] at h | skip
  simp only [eqFine, st32, wd_pair]
  all_goals simp only [h, and_self]
theorem law32 : ∀ q : Slt × Slt, pEq q.1 q.2 → eqSt q.1 q.2 st32 (fun r => r = eqF q.1 q.2) := fun q hq => eqSt_holds q.1 q.2 st32 (w32 q.1 q.2 hq) (eqF_iff.trans (a32 q.1 q.2).symm)
theorem all32 (w : World) (hJ : J w) : CtAt Try.prog ct32 w :=
  ct_by ok32 (cs32 w hJ) Try.func32 (by kernel_rfl) (H := (hint [])) law32 (by kernel_rfl)
noncomputable def E29 : Env := { tt, eqs := [], cts := [ct32] }
theorem ok29 : EnvOk Try.prog E29 := ⟨ttOk, by kernel_rfl, rfl, mixOk⟩
theorem cs29 (w0 : World) (hJ : J w0) : EnvCts Try.prog E29 w0 w0.heap.size := by
  refine ⟨fun c hc => ?_, fun c hc => ?_⟩
  · rcases List.mem_cons.1 hc with rfl | hc
    · exact fun w hb => all32 w (J_below hJ hb)
    cases hc
  · cases hc
noncomputable def ct29 : Ct := { f := 29, ps := [.v false .ro ls30, .v false .ro ls30], rs := [(false, [.bool])], shared := false, pre := fun (q : (List Slt) × (List Slt)) => pEq q.1 q.2, F := fun (q : (List Slt) × (List Slt)) => eqF q.1 q.2 }
theorem law29 : ∀ q : (List Slt) × (List Slt), pEq q.1 q.2 → eqS (α := Slt) Dft.dft (fun a b => pEq a b) (fun a b => eqF a b) q.1 q.2 (fun r => r = eqF q.1 q.2) := fun q hq => eqS_holds (α := Slt) Dft.dft (fun a b => pEq a b) (fun a b => eqF a b) q.1 q.2 hq.1 (fun i a _ h => hq.2 i a h) (fun _ _ => eqF_iff) eqF_iff
theorem all29 (w : World) (hJ : J w) : CtAt Try.prog ct29 w :=
  ct_by ok29 (cs29 w hJ) Try.func29 (by kernel_rfl) (H := (hint [(4, [.val 5 (.int .i64)])])) law29 (by kernel_rfl)
noncomputable def E22 : Env := { tt, eqs := [], cts := [ct29] }
theorem ok22 : EnvOk Try.prog E22 := ⟨ttOk, by kernel_rfl, rfl, mixOk⟩
theorem cs22 (w0 : World) (hJ : J w0) : EnvCts Try.prog E22 w0 w0.heap.size := by
  refine ⟨fun c hc => ?_, fun c hc => ?_⟩
  · rcases List.mem_cons.1 hc with rfl | hc
    · exact fun w hb => all29 w (J_below hJ hb)
    cases hc
  · cases hc
noncomputable def ct22 : Ct := { f := 22, ps := [.v true .ro ls32, .v true .ro ls32], rs := [(false, [.bool])], shared := false, pre := fun (q : Shd × Shd) => pEq q.1 q.2, F := fun (q : Shd × Shd) => eqF q.1 q.2 }
def st22 : List (EqStep Shd) := [.ne (fun (x y : Shd) => x.1 ≠ y.1), .ne (fun (x y : Shd) => x.2.1 ≠ y.2.1), .call (fun (x _ : Shd) => wd (x.2.2.1 : (List Slt))) (fun (x y : Shd) => eqF (x.2.2.1 : (List Slt)) y.2.2.1), .ne (fun (x y : Shd) => x.2.2.2 ≠ y.2.2.2)]
def mk22 (a0 : Int) (a1 : Int) (a2 : (List Slt)) (a3 : Int) : Shd := (a0, a1, a2, a3)
theorem a22 (x y : Shd) : eqAll x y st22 ↔ x = y := by
  constructor
  · rintro ⟨h0, h1, h2, h3, -⟩
    have h0 : x.1 = y.1 := Classical.byContradiction h0
    have h1 : x.2.1 = y.2.1 := Classical.byContradiction h1
    have h2 : (x.2.2.1 : (List Slt)) = y.2.2.1 := eqF_iff.1 h2
    have h3 : x.2.2.2 = y.2.2.2 := Classical.byContradiction h3
    show mk22 (x.1) (x.2.1) (x.2.2.1) (x.2.2.2) = mk22 (y.1) (y.2.1) (y.2.2.1) (y.2.2.2)
    rw [h0, h1, h2, h3]
    all_goals rfl
  · rintro rfl
    exact ⟨fun h => h rfl, fun h => h rfl, eqF_iff.2 rfl, fun h => h rfl, trivial⟩
theorem w22 (x y : Shd) (h : wd x) : eqFine x y st22 := by
  first | simp only [wd_pair] at h | skip
  simp only [eqFine, st22, wd_pair]
  all_goals simp only [h, and_self]
theorem law22 : ∀ q : Shd × Shd, pEq q.1 q.2 → eqSt q.1 q.2 st22 (fun r => r = eqF q.1 q.2) := fun q hq => eqSt_holds q.1 q.2 st22 (w22 q.1 q.2 hq) (eqF_iff.trans (a22 q.1 q.2).symm)
theorem all22 (w : World) (hJ : J w) : CtAt Try.prog ct22 w :=
  ct_by ok22 (cs22 w hJ) Try.func22 (by kernel_rfl) (H := (hint [])) law22 (by kernel_rfl)
noncomputable def E15 : Env := { tt, eqs := [], cts := [ct22] }
theorem ok15 : EnvOk Try.prog E15 := ⟨ttOk, by kernel_rfl, rfl, mixOk⟩
theorem cs15 (w0 : World) (hJ : J w0) : EnvCts Try.prog E15 w0 w0.heap.size := by
  refine ⟨fun c hc => ?_, fun c hc => ?_⟩
  · rcases List.mem_cons.1 hc with rfl | hc
    · exact fun w hb => all22 w (J_below hJ hb)
    cases hc
  · cases hc
noncomputable def ct15 : Ct := { f := 15, ps := [.v false .ro ls22, .v false .ro ls22], rs := [(false, [.bool])], shared := false, pre := fun (q : (List Shd) × (List Shd)) => pEq q.1 q.2, F := fun (q : (List Shd) × (List Shd)) => eqF q.1 q.2 }
theorem law15 : ∀ q : (List Shd) × (List Shd), pEq q.1 q.2 → eqS (α := Shd) Dft.dft (fun a b => pEq a b) (fun a b => eqF a b) q.1 q.2 (fun r => r = eqF q.1 q.2) := fun q hq => eqS_holds (α := Shd) Dft.dft (fun a b => pEq a b) (fun a b => eqF a b) q.1 q.2 hq.1 (fun i a _ h => hq.2 i a h) (fun _ _ => eqF_iff) eqF_iff
theorem all15 (w : World) (hJ : J w) : CtAt Try.prog ct15 w :=
  ct_by ok15 (cs15 w hJ) Try.func15 (by kernel_rfl) (H := (hint [(4, [.val 5 (.int .i64)])])) law15 (by kernel_rfl)
noncomputable def E23 : Env := { tt, eqs := [], cts := [] }
theorem ok23 : EnvOk Try.prog E23 := ⟨ttOk, by kernel_rfl, rfl, mixOk⟩
theorem cs23 (w0 : World) (hJ : J w0) : EnvCts Try.prog E23 w0 w0.heap.size := by
  refine ⟨fun c hc => ?_, fun c hc => ?_⟩
  · cases hc
  · cases hc
noncomputable def ct23 : Ct := { f := 23, ps := [.v true .ro ls46, .v true .ro ls46], rs := [(false, [.bool])], shared := false, pre := fun (q : Gen × Gen) => pEq q.1 q.2, F := fun (q : Gen × Gen) => eqF q.1 q.2 }
def st23 : List (EqStep Gen) := [.ne (fun (x y : Gen) => x.1 ≠ y.1), .ne (fun (x y : Gen) => x.2 ≠ y.2)]
def mk23 (a0 : S) (a1 : Int) : Gen := (a0, a1)
theorem a23 (x y : Gen) : eqAll x y st23 ↔ x = y := by
  constructor
  · rintro ⟨h0, h1, -⟩
    have h0 : x.1 = y.1 := Classical.byContradiction h0
    have h1 : x.2 = y.2 := Classical.byContradiction h1
    show mk23 (x.1) (x.2) = mk23 (y.1) (y.2)
    rw [h0, h1]
    all_goals rfl
  · rintro rfl
    exact ⟨fun h => h rfl, fun h => h rfl, trivial⟩
theorem w23 (x y : Gen) (h : wd x) : eqFine x y st23 := by
  first | simp only [wd_pair] at h | skip
  simp only [eqFine, st23, wd_pair]
  all_goals simp only [h, and_self]
theorem law23 : ∀ q : Gen × Gen, pEq q.1 q.2 → eqSt q.1 q.2 st23 (fun r => r = eqF q.1 q.2) := fun q hq => eqSt_holds q.1 q.2 st23 (w23 q.1 q.2 hq) (eqF_iff.trans (a23 q.1 q.2).symm)
theorem all23 (w : World) (hJ : J w) : CtAt Try.prog ct23 w :=
  ct_by ok23 (cs23 w hJ) Try.func23 (by kernel_rfl) (H := (hint [])) law23 (by kernel_rfl)
noncomputable def E16 : Env := { tt, eqs := [], cts := [ct23] }
theorem ok16 : EnvOk Try.prog E16 := ⟨ttOk, by kernel_rfl, rfl, mixOk⟩
theorem cs16 (w0 : World) (hJ : J w0) : EnvCts Try.prog E16 w0 w0.heap.size := by
  refine ⟨fun c hc => ?_, fun c hc => ?_⟩
  · rcases List.mem_cons.1 hc with rfl | hc
    · exact fun w hb => all23 w (J_below hJ hb)
    cases hc
  · cases hc
noncomputable def ct16 : Ct := { f := 16, ps := [.v false .ro ls23, .v false .ro ls23], rs := [(false, [.bool])], shared := false, pre := fun (q : (List Gen) × (List Gen)) => pEq q.1 q.2, F := fun (q : (List Gen) × (List Gen)) => eqF q.1 q.2 }
theorem law16 : ∀ q : (List Gen) × (List Gen), pEq q.1 q.2 → eqS (α := Gen) Dft.dft (fun a b => pEq a b) (fun a b => eqF a b) q.1 q.2 (fun r => r = eqF q.1 q.2) := fun q hq => eqS_holds (α := Gen) Dft.dft (fun a b => pEq a b) (fun a b => eqF a b) q.1 q.2 hq.1 (fun i a _ h => hq.2 i a h) (fun _ _ => eqF_iff) eqF_iff
theorem all16 (w : World) (hJ : J w) : CtAt Try.prog ct16 w :=
  ct_by ok16 (cs16 w hJ) Try.func16 (by kernel_rfl) (H := (hint [(4, [.val 5 (.int .i64)])])) law16 (by kernel_rfl)
noncomputable def E6 : Env := { tt, eqs := [], cts := [ct15, ct16] }
theorem ok6 : EnvOk Try.prog E6 := ⟨ttOk, by kernel_rfl, rfl, mixOk⟩
theorem cs6 (w0 : World) (hJ : J w0) : EnvCts Try.prog E6 w0 w0.heap.size := by
  refine ⟨fun c hc => ?_, fun c hc => ?_⟩
  · rcases List.mem_cons.1 hc with rfl | hc
    · exact fun w hb => all15 w (J_below hJ hb)
    rcases List.mem_cons.1 hc with rfl | hc
    · exact fun w hb => all16 w (J_below hJ hb)
    cases hc
  · cases hc
noncomputable def ct6 : Ct := { f := 6, ps := [.v true .ro ls25, .v true .ro ls25], rs := [(false, [.bool])], shared := false, pre := fun (q : Cch × Cch) => pEq q.1 q.2, F := fun (q : Cch × Cch) => eqF q.1 q.2 }
def st6 : List (EqStep Cch) := [.call (fun (x _ : Cch) => wd (x.1 : (List Shd))) (fun (x y : Cch) => eqF (x.1 : (List Shd)) y.1), .call (fun (x _ : Cch) => wd (x.2 : (List Gen))) (fun (x y : Cch) => eqF (x.2 : (List Gen)) y.2)]
def mk6 (a0 : (List Shd)) (a1 : (List Gen)) : Cch := (a0, a1)
theorem a6 (x y : Cch) : eqAll x y st6 ↔ x = y := by
  constructor
  · rintro ⟨h0, h1, -⟩
    have h0 : (x.1 : (List Shd)) = y.1 := eqF_iff.1 h0
    have h1 : (x.2 : (List Gen)) = y.2 := eqF_iff.1 h1
    show mk6 (x.1) (x.2) = mk6 (y.1) (y.2)
    rw [h0, h1]
    all_goals rfl
  · rintro rfl
    exact ⟨eqF_iff.2 rfl, eqF_iff.2 rfl, trivial⟩
theorem w6 (x y : Cch) (h : wd x) : eqFine x y st6 := by
  first | simp only [wd_pair] at h | skip
  simp only [eqFine, st6, wd_pair]
  all_goals simp only [h, and_self]
theorem law6 : ∀ q : Cch × Cch, pEq q.1 q.2 → eqSt q.1 q.2 st6 (fun r => r = eqF q.1 q.2) := fun q hq => eqSt_holds q.1 q.2 st6 (w6 q.1 q.2 hq) (eqF_iff.trans (a6 q.1 q.2).symm)
theorem all6 (w : World) (hJ : J w) : CtAt Try.prog ct6 w :=
  ct_by ok6 (cs6 w hJ) Try.func6 (by kernel_rfl) (H := (hint [])) law6 (by kernel_rfl)
noncomputable def E25 : Env := { tt, eqs := [], cts := [] }
theorem ok25 : EnvOk Try.prog E25 := ⟨ttOk, by kernel_rfl, rfl, mixOk⟩
theorem cs25 (w0 : World) (hJ : J w0) : EnvCts Try.prog E25 w0 w0.heap.size := by
  refine ⟨fun c hc => ?_, fun c hc => ?_⟩
  · cases hc
  · cases hc
noncomputable def ct25 : Ct := { f := 25, ps := [.v false .ro ls3], rs := [(false, ls9)], shared := false, pre := fun (x : Int) => pMarkText x, F := fun (x : Int) => mMarkText x }
theorem law25 : ∀ x : Int, pMarkText x → s_laws_markText x (fun r => r = mMarkText x) := fun x h => laws_markText_ok x h
theorem all25 (w : World) (hJ : J w) : CtAt Try.prog ct25 w :=
  ct_by ok25 (cs25 w hJ) Try.func25 (by kernel_rfl) (H := (hint [(4, [.val 0 (.int .i64), .val 3 (.str)])])) law25 (by kernel_rfl)
noncomputable def E30 : Env := { tt, eqs := [], cts := [ct25] }
theorem ok30 : EnvOk Try.prog E30 := ⟨ttOk, by kernel_rfl, rfl, mixOk⟩
theorem cs30 (m : Nat) (w0 : World) (hJ : Jn m w0) : EnvCts Try.prog E30 w0 m := by
  refine ⟨fun c hc => ?_, fun c hc => ?_⟩
  · rcases List.mem_cons.1 hc with rfl | hc
    · exact fun w hb => all25 w (Jn_J (Jn_below hJ hb))
    cases hc
  · cases hc
noncomputable def ct30 : CtM := { f := 30, ps := [.v false .io ls56, .v false .ro ls3], rs := [(false, ls3)], pre := fun (x : (List Fld) × Int) => pMarkFieldS x.1 x.2, F := fun (x : (List Fld) × Int) => mMarkFieldS x.1 x.2, W := fun (x : (List Fld) × Int) => wMarkFieldS x.1 x.2 }
theorem law30 : ∀ x : (List Fld) × Int, pMarkFieldS x.1 x.2 → s_laws_markFieldS x.1 x.2 (fun r y => r = mMarkFieldS x.1 x.2 ∧ y = wMarkFieldS x.1 x.2) := fun x h => laws_markFieldS_ok x.1 x.2 h
theorem all30 (m : Nat) (w : World) (hJ : Jn m w) : CtMAt Try.prog ct30 m w :=
  ctm_by ok30 (cs30 m w hJ) Try.func30 (by kernel_rfl) (H := (hint [(2, [.val 1 (.int .i64), .val 5 (.int .i64), .reg 0 67 [.str, .str] true])])) law30 (by kernel_rfl)
noncomputable def E24 : Env := { tt, eqs := [], cts := [ct25], ms := [ct30], deep := true }
theorem ok24 : EnvOk Try.prog E24 := ⟨ttOk, by kernel_rfl, rfl, mixOk⟩
theorem cs24 (m : Nat) (w0 : World) (hJ : Jn m w0) : EnvCts Try.prog E24 w0 m := by
  refine ⟨fun c hc => ?_, fun c hc => ?_⟩
  · rcases List.mem_cons.1 hc with rfl | hc
    · exact fun w hb => all25 w (Jn_J (Jn_below hJ hb))
    cases hc
  · rcases List.mem_cons.1 hc with rfl | hc
    · exact fun w hb => all30 m w (Jn_below hJ hb)
    cases hc
noncomputable def ct24 : CtM := { f := 24, ps := [.v false .io ls30, .v false .ro ls3], rs := [(false, ls3)], pre := fun (x : (List Slt) × Int) => pMarkSlotS x.1 x.2, F := fun (x : (List Slt) × Int) => mMarkSlotS x.1 x.2, W := fun (x : (List Slt) × Int) => wMarkSlotS x.1 x.2, deep := true }
theorem law24 : ∀ x : (List Slt) × Int, pMarkSlotS x.1 x.2 → s_laws_markSlotS x.1 x.2 (fun r y => r = mMarkSlotS x.1 x.2 ∧ y = wMarkSlotS x.1 x.2) := fun x h => laws_markSlotS_ok x.1 x.2 h
theorem all24 (m : Nat) (w : World) (hJ : Jn m w) : CtMAt Try.prog ct24 m w :=
  ctm_by ok24 (cs24 m w hJ) Try.func24 (by kernel_rfl) (H := (hint [(2, [.val 1 (.int .i64), .val 5 (.int .i64), .reg 0 62 [.str, .list 67 [.str, .str], .int .i64, .list 67 [.str, .str], .str, .int .i64, .int .i64, .bool] true true])])) law24 (by kernel_rfl)
noncomputable def E17 : Env := { tt, eqs := [], cts := [], ms := [ct24], deep := true }
theorem ok17 : EnvOk Try.prog E17 := ⟨ttOk, by kernel_rfl, rfl, mixOk⟩
theorem cs17 (m : Nat) (w0 : World) (hJ : Jn m w0) : EnvCts Try.prog E17 w0 m := by
  refine ⟨fun c hc => ?_, fun c hc => ?_⟩
  · cases hc
  · rcases List.mem_cons.1 hc with rfl | hc
    · exact fun w hb => all24 m w (Jn_below hJ hb)
    cases hc
noncomputable def ct17 : CtM := { f := 17, ps := [.v false .io ls22, .v false .ro ls3], rs := [(false, ls3)], pre := fun (x : (List Shd) × Int) => pMarkShardS x.1 x.2, F := fun (x : (List Shd) × Int) => mMarkShardS x.1 x.2, W := fun (x : (List Shd) × Int) => wMarkShardS x.1 x.2, deep := true }
theorem law17 : ∀ x : (List Shd) × Int, pMarkShardS x.1 x.2 → s_laws_markShardS x.1 x.2 (fun r y => r = mMarkShardS x.1 x.2 ∧ y = wMarkShardS x.1 x.2) := fun x h => laws_markShardS_ok x.1 x.2 h
theorem all17 (m : Nat) (w : World) (hJ : Jn m w) : CtMAt Try.prog ct17 m w :=
  ctm_by ok17 (cs17 m w hJ) Try.func17 (by kernel_rfl) (H := (hint [(2, [.val 1 (.int .i64), .val 5 (.int .i64), .reg 0 32 [.int .i64, .int .i64, .list 62 [.str, .list 67 [.str, .str], .int .i64, .list 67 [.str, .str], .str, .int .i64, .int .i64, .bool], .int .i64] true true])])) law17 (by kernel_rfl)
noncomputable def E18 : Env := { tt, eqs := [], cts := [ct25] }
theorem ok18 : EnvOk Try.prog E18 := ⟨ttOk, by kernel_rfl, rfl, mixOk⟩
theorem cs18 (m : Nat) (w0 : World) (hJ : Jn m w0) : EnvCts Try.prog E18 w0 m := by
  refine ⟨fun c hc => ?_, fun c hc => ?_⟩
  · rcases List.mem_cons.1 hc with rfl | hc
    · exact fun w hb => all25 w (Jn_J (Jn_below hJ hb))
    cases hc
  · cases hc
noncomputable def ct18 : CtM := { f := 18, ps := [.v false .io ls23, .v false .ro ls3], rs := [(false, ls3)], pre := fun (x : (List Gen) × Int) => pMarkGenRowS x.1 x.2, F := fun (x : (List Gen) × Int) => mMarkGenRowS x.1 x.2, W := fun (x : (List Gen) × Int) => wMarkGenRowS x.1 x.2 }
theorem law18 : ∀ x : (List Gen) × Int, pMarkGenRowS x.1 x.2 → s_laws_markGenRowS x.1 x.2 (fun r y => r = mMarkGenRowS x.1 x.2 ∧ y = wMarkGenRowS x.1 x.2) := fun x h => laws_markGenRowS_ok x.1 x.2 h
theorem all18 (m : Nat) (w : World) (hJ : Jn m w) : CtMAt Try.prog ct18 m w :=
  ctm_by ok18 (cs18 m w hJ) Try.func18 (by kernel_rfl) (H := (hint [(2, [.val 1 (.int .i64), .val 5 (.int .i64), .reg 0 46 [.str, .int .i64] true])])) law18 (by kernel_rfl)
noncomputable def E7 : Env := { tt, eqs := [], cts := [], ms := [ct17, ct18], deep := true }
theorem ok7 : EnvOk Try.prog E7 := ⟨ttOk, by kernel_rfl, rfl, mixOk⟩
theorem cs7 (m : Nat) (w0 : World) (hJ : Jn m w0) : EnvCts Try.prog E7 w0 m := by
  refine ⟨fun c hc => ?_, fun c hc => ?_⟩
  · cases hc
  · rcases List.mem_cons.1 hc with rfl | hc
    · exact fun w hb => all17 m w (Jn_below hJ hb)
    rcases List.mem_cons.1 hc with rfl | hc
    · exact fun w hb => all18 m w (Jn_below hJ hb)
    cases hc
noncomputable def ct7 : CtM := { f := 7, ps := [.v true .io ls25, .v false .ro ls3], rs := [(false, ls3)], pre := fun (x : Cch × Int) => pMarkCache x.1 x.2, F := fun (x : Cch × Int) => mMarkCache x.1 x.2, W := fun (x : Cch × Int) => wMarkCache x.1 x.2, deep := true }
theorem law7 : ∀ x : Cch × Int, pMarkCache x.1 x.2 → s_laws_markCache x.1 x.2 (fun r y => r = mMarkCache x.1 x.2 ∧ y = wMarkCache x.1 x.2) := fun x h => laws_markCache_ok x.1 x.2 h
theorem all7 (m : Nat) (w : World) (hJ : Jn m w) : CtMAt Try.prog ct7 m w :=
  ctm_by ok7 (cs7 m w hJ) Try.func7 (by kernel_rfl) (H := (hint [])) law7 (by kernel_rfl)
noncomputable def E31 : Env := { tt, eqs := [], cts := [ct25] }
theorem ok31 : EnvOk Try.prog E31 := ⟨ttOk, by kernel_rfl, rfl, mixOk⟩
theorem cs31 (w0 : World) (hJ : J w0) : EnvCts Try.prog E31 w0 w0.heap.size := by
  refine ⟨fun c hc => ?_, fun c hc => ?_⟩
  · rcases List.mem_cons.1 hc with rfl | hc
    · exact fun w hb => all25 w (J_below hJ hb)
    cases hc
  · cases hc
noncomputable def ct31 : Ct := { f := 31, ps := [.v false .ro ls56, .v false .ro ls3], rs := [(false, ls3)], shared := false, pre := fun (x : (List Fld) × Int) => pHeldFieldS x.1 x.2, F := fun (x : (List Fld) × Int) => mHeldFieldS x.1 x.2 }
theorem law31 : ∀ x : (List Fld) × Int, pHeldFieldS x.1 x.2 → s_laws_heldFieldS x.1 x.2 (fun r => r = mHeldFieldS x.1 x.2) := fun x h => laws_heldFieldS_ok x.1 x.2 h
theorem all31 (w : World) (hJ : J w) : CtAt Try.prog ct31 w :=
  ct_by ok31 (cs31 w hJ) Try.func31 (by kernel_rfl) (H := (hint [(2, [.val 1 (.int .i64), .val 5 (.int .i64)])])) law31 (by kernel_rfl)
noncomputable def E26 : Env := { tt, eqs := [], cts := [ct25, ct31] }
theorem ok26 : EnvOk Try.prog E26 := ⟨ttOk, by kernel_rfl, rfl, mixOk⟩
theorem cs26 (w0 : World) (hJ : J w0) : EnvCts Try.prog E26 w0 w0.heap.size := by
  refine ⟨fun c hc => ?_, fun c hc => ?_⟩
  · rcases List.mem_cons.1 hc with rfl | hc
    · exact fun w hb => all25 w (J_below hJ hb)
    rcases List.mem_cons.1 hc with rfl | hc
    · exact fun w hb => all31 w (J_below hJ hb)
    cases hc
  · cases hc
noncomputable def ct26 : Ct := { f := 26, ps := [.v false .ro ls30, .v false .ro ls3], rs := [(false, ls3)], shared := false, pre := fun (x : (List Slt) × Int) => pHeldSlotS x.1 x.2, F := fun (x : (List Slt) × Int) => mHeldSlotS x.1 x.2 }
theorem law26 : ∀ x : (List Slt) × Int, pHeldSlotS x.1 x.2 → s_laws_heldSlotS x.1 x.2 (fun r => r = mHeldSlotS x.1 x.2) := fun x h => laws_heldSlotS_ok x.1 x.2 h
theorem all26 (w : World) (hJ : J w) : CtAt Try.prog ct26 w :=
  ct_by ok26 (cs26 w hJ) Try.func26 (by kernel_rfl) (H := (hint [(2, [.val 1 (.int .i64), .val 5 (.int .i64)])])) law26 (by kernel_rfl)
noncomputable def E19 : Env := { tt, eqs := [], cts := [ct26] }
theorem ok19 : EnvOk Try.prog E19 := ⟨ttOk, by kernel_rfl, rfl, mixOk⟩
theorem cs19 (w0 : World) (hJ : J w0) : EnvCts Try.prog E19 w0 w0.heap.size := by
  refine ⟨fun c hc => ?_, fun c hc => ?_⟩
  · rcases List.mem_cons.1 hc with rfl | hc
    · exact fun w hb => all26 w (J_below hJ hb)
    cases hc
  · cases hc
noncomputable def ct19 : Ct := { f := 19, ps := [.v false .ro ls22, .v false .ro ls3], rs := [(false, ls3)], shared := false, pre := fun (x : (List Shd) × Int) => pHeldShardS x.1 x.2, F := fun (x : (List Shd) × Int) => mHeldShardS x.1 x.2 }
theorem law19 : ∀ x : (List Shd) × Int, pHeldShardS x.1 x.2 → s_laws_heldShardS x.1 x.2 (fun r => r = mHeldShardS x.1 x.2) := fun x h => laws_heldShardS_ok x.1 x.2 h
theorem all19 (w : World) (hJ : J w) : CtAt Try.prog ct19 w :=
  ct_by ok19 (cs19 w hJ) Try.func19 (by kernel_rfl) (H := (hint [(2, [.val 1 (.int .i64), .val 5 (.int .i64)])])) law19 (by kernel_rfl)
noncomputable def E20 : Env := { tt, eqs := [], cts := [ct25] }
theorem ok20 : EnvOk Try.prog E20 := ⟨ttOk, by kernel_rfl, rfl, mixOk⟩
theorem cs20 (w0 : World) (hJ : J w0) : EnvCts Try.prog E20 w0 w0.heap.size := by
  refine ⟨fun c hc => ?_, fun c hc => ?_⟩
  · rcases List.mem_cons.1 hc with rfl | hc
    · exact fun w hb => all25 w (J_below hJ hb)
    cases hc
  · cases hc
noncomputable def ct20 : Ct := { f := 20, ps := [.v false .ro ls23, .v false .ro ls3], rs := [(false, ls3)], shared := false, pre := fun (x : (List Gen) × Int) => pHeldGenRowS x.1 x.2, F := fun (x : (List Gen) × Int) => mHeldGenRowS x.1 x.2 }
theorem law20 : ∀ x : (List Gen) × Int, pHeldGenRowS x.1 x.2 → s_laws_heldGenRowS x.1 x.2 (fun r => r = mHeldGenRowS x.1 x.2) := fun x h => laws_heldGenRowS_ok x.1 x.2 h
theorem all20 (w : World) (hJ : J w) : CtAt Try.prog ct20 w :=
  ct_by ok20 (cs20 w hJ) Try.func20 (by kernel_rfl) (H := (hint [(2, [.val 1 (.int .i64), .val 5 (.int .i64)])])) law20 (by kernel_rfl)
noncomputable def E8 : Env := { tt, eqs := [], cts := [ct19, ct20] }
theorem ok8 : EnvOk Try.prog E8 := ⟨ttOk, by kernel_rfl, rfl, mixOk⟩
theorem cs8 (w0 : World) (hJ : J w0) : EnvCts Try.prog E8 w0 w0.heap.size := by
  refine ⟨fun c hc => ?_, fun c hc => ?_⟩
  · rcases List.mem_cons.1 hc with rfl | hc
    · exact fun w hb => all19 w (J_below hJ hb)
    rcases List.mem_cons.1 hc with rfl | hc
    · exact fun w hb => all20 w (J_below hJ hb)
    cases hc
  · cases hc
noncomputable def ct8 : Ct := { f := 8, ps := [.v true .ro ls25, .v false .ro ls3], rs := [(false, ls3)], shared := false, pre := fun (x : Cch × Int) => pHeldCache x.1 x.2, F := fun (x : Cch × Int) => mHeldCache x.1 x.2 }
theorem law8 : ∀ x : Cch × Int, pHeldCache x.1 x.2 → s_laws_heldCache x.1 x.2 (fun r => r = mHeldCache x.1 x.2) := fun x h => laws_heldCache_ok x.1 x.2 h
theorem all8 (w : World) (hJ : J w) : CtAt Try.prog ct8 w :=
  ct_by ok8 (cs8 w hJ) Try.func8 (by kernel_rfl) (H := (hint [])) law8 (by kernel_rfl)
noncomputable def E3 : Env := { tt, eqs := [], cts := [ct4, ct5, ct6, ct8], ms := [ct7] }
theorem ok3 : EnvOk Try.prog E3 := ⟨ttOk, by kernel_rfl, rfl, mixOk⟩
theorem cs3 (w0 : World) (hJ : J w0) : EnvCts Try.prog E3 w0 w0.heap.size := by
  refine ⟨fun c hc => ?_, fun c hc => ?_⟩
  · rcases List.mem_cons.1 hc with rfl | hc
    · exact fun w hb => all4 w (J_below hJ hb)
    rcases List.mem_cons.1 hc with rfl | hc
    · exact fun w hb => all5 w (J_below hJ hb)
    rcases List.mem_cons.1 hc with rfl | hc
    · exact fun w hb => all6 w (J_below hJ hb)
    rcases List.mem_cons.1 hc with rfl | hc
    · exact fun w hb => all8 w (J_below hJ hb)
    cases hc
  · rcases List.mem_cons.1 hc with rfl | hc
    · exact fun w hb => all7 w0.heap.size w (Jn_of hJ hb)
    cases hc
noncomputable def ct3 : Ct := boolCt 3 [.v false .ro ls3, .v false .ro ls3, .v false .ro ls3] (fun (x : Int × Int × Int) => p_FnExactCacheNew x.1 x.2.1 x.2.2)
theorem law3 : ∀ x : Int × Int × Int, p_FnExactCacheNew x.1 x.2.1 x.2.2 → s_laws_FnExactCacheNew x.1 x.2.1 x.2.2 (fun r => r = true) := fun x h => laws_FnExactCacheNew_ok x.1 x.2.1 x.2.2 h
theorem all3 (w : World) (hJ : J w) : CtAt Try.prog ct3 w :=
  ct_by ok3 (cs3 w hJ) Try.func3 (by kernel_rfl) (H := (hint [])) law3 (by kernel_rfl)
end Go.Proofs.Ytdglpinlegnjkaa.Ap
end
