-- Written by own.py, a program of this session's own, which calls the kit's print. Lean checks it.
import Derived.Test.YthbmemimpakljaaQFnExactSameCachex0
namespace Go.Proofs.Ythbmemimpakljaa.QFnExactSameCache
open Go.RowKit Go.Proofs.YthbmemimpakljaaW.PrintWords Go.Proofs.YthbmemimpakljaaW.PrintLast
attribute [local go_sem] Kit.run_store_one   -- for this text's walks alone
set_option linter.unusedVariables false
set_option linter.unusedSimpArgs false

/-! ### laws_szField: function 85 -/
def laws_szField.f (a0_0 : ByteArray) (a0_1 : ByteArray) (a1 : Int) : Option (Int) := if (wrap64 (a1 - (a0_0.size : Int))) < 0 then (some (-1)) else (if (wrap64 ((wrap64 (a1 - (a0_0.size : Int))) - (a0_1.size : Int))) < 0 then (some (-1)) else (some (wrap64 ((wrap64 (a1 - (a0_0.size : Int))) - (a0_1.size : Int)))))
set_option maxHeartbeats 8000000 in
set_option maxRecDepth 100000 in
theorem laws_szField.calls (a0_0 : ByteArray) (a0_1 : ByteArray) (a1 : Int) (r : Int) (w : World) (h : laws_szField.f a0_0 a0_1 a1 = some r) :
    Calls Try.prog 85 #[.agg #[.string a0_0, .string a0_1], .int .i64 a1] w fun e w' => e = .returned (.int .i64 r) ∧ Below w.heap.size w w' := by
  have hu110 := Try.underlying110
  have HB := Aside0.mk (Below.refl w.heap.size w)
  have H : (if (wrap64 (a1 - (a0_0.size : Int))) < 0 then (some (-1)) else (if (wrap64 ((wrap64 (a1 - (a0_0.size : Int))) - (a0_1.size : Int))) < 0 then (some (-1)) else (some (wrap64 ((wrap64 (a1 - (a0_0.size : Int))) - (a0_1.size : Int)))))) = some r := h
  clear h
  by_cases c3 : (wrap64 (a1 - (a0_0.size : Int))) < 0
  · rw [if_pos c3] at H
    have c3b0 : decide ((wrap64 (a1 - (a0_0.size : Int))) < 0) = true := decide_eq_true c3
    clear c3
    obtain rfl := Option.some.inj H
    go_enter Try.func85, Try.ntmps85
    go_wp2_with (first | ((with_reducible refine gate_dst (N := 2) rfl ?_); refine box_event ?hg (N := 2) ?hd (cs := #[.string a0_0, .string a0_1]) (t := 110) ?hr ?_; (case hd => rfl); (case hg => rfl); (case hr => exact Kit.hr); intro gb101 hg w4 hbox hb; have BK101 := Aside0.mk (hbox); have GW101 := Kit.gX (w := w) hg; have GE101 := GW101; replace HB := Kit.hB hb; clear hb hbox hg; obtain ⟨hcz5_0, hcz5_1, hfz5_0, hfz5_1⟩ := Kit.c2 BK101.out))
    go_ret
    exact ⟨Kit.er, Kit.bl⟩
  · rw [if_neg c3] at H
    have c3b0 : decide ((wrap64 (a1 - (a0_0.size : Int))) < 0) = false := decide_eq_false c3
    clear c3
    by_cases c6 : (wrap64 ((wrap64 (a1 - (a0_0.size : Int))) - (a0_1.size : Int))) < 0
    · rw [if_pos c6] at H
      have c6b0 : decide ((wrap64 ((wrap64 (a1 - (a0_0.size : Int))) - (a0_1.size : Int))) < 0) = true := decide_eq_true c6
      clear c6
      obtain rfl := Option.some.inj H
      go_enter Try.func85, Try.ntmps85
      go_wp2_with (first | ((with_reducible refine gate_dst (N := 2) rfl ?_); refine box_event ?hg (N := 2) ?hd (cs := #[.string a0_0, .string a0_1]) (t := 110) ?hr ?_; (case hd => rfl); (case hg => rfl); (case hr => exact Kit.hr); intro gb101 hg w7 hbox hb; have BK101 := Aside0.mk (hbox); have GW101 := Kit.gX (w := w) hg; have GE101 := GW101; replace HB := Kit.hB hb; clear hb hbox hg; obtain ⟨hcz8_0, hcz8_1, hfz8_0, hfz8_1⟩ := Kit.c2 BK101.out))
      go_ret
      exact ⟨Kit.er, Kit.bl⟩
    · rw [if_neg c6] at H
      have c6b0 : decide ((wrap64 ((wrap64 (a1 - (a0_0.size : Int))) - (a0_1.size : Int))) < 0) = false := decide_eq_false c6
      clear c6
      obtain rfl := Option.some.inj H
      go_enter Try.func85, Try.ntmps85
      go_wp2_with (first | ((with_reducible refine gate_dst (N := 2) rfl ?_); refine box_event ?hg (N := 2) ?hd (cs := #[.string a0_0, .string a0_1]) (t := 110) ?hr ?_; (case hd => rfl); (case hg => rfl); (case hr => exact Kit.hr); intro gb101 hg w9 hbox hb; have BK101 := Aside0.mk (hbox); have GW101 := Kit.gX (w := w) hg; have GE101 := GW101; replace HB := Kit.hB hb; clear hb hbox hg; obtain ⟨hcz10_0, hcz10_1, hfz10_0, hfz10_1⟩ := Kit.c2 BK101.out))
      go_ret
      exact ⟨Kit.er, Kit.bl⟩

/-! ### laws_szFieldS: function 48 -/
def laws_szFieldS.l0 : Nat → List (S110) → Int → Int → Option (Int)
  | 0, _, _, _ => none
  | k + 1, x0, x1, x5 => if x5 < (x0.length : Int) then (if 0 ≤ x5 then ((laws_szField.f ((rd_T110 x0 x5).f0) ((rd_T110 x0 x5).f1) x1).bind fun t103 => (if t103 < 0 then (some (-1)) else (laws_szFieldS.l0 k x0 t103 (wrap64 (x5 + 1))))) else (none)) else (some x1)
def laws_szFieldS.f (k : Nat) (l0 : List (S110)) (a1 : Int) : Option (Int) := if (wrap64 (a1 - (l0.length : Int))) < 0 then (some (-1)) else (laws_szFieldS.l0 k l0 (wrap64 (a1 - (l0.length : Int))) 0)
theorem laws_szFieldS.mono_l : ∀ k, (∀ y0 y1 y2, LeO (laws_szFieldS.l0 k y0 y1 y2) (laws_szFieldS.l0 (k + 1) y0 y1 y2))
  | 0 => fun _ _ _ r h => by simp [laws_szFieldS.l0] at h
  | k + 1 => by
    have ih0 := laws_szFieldS.mono_l k
    · intro y0 y1 y2
      unfold laws_szFieldS.l0
      repeat' first
      | (with_reducible exact ih0 _ _ _)
      | (with_reducible exact LeO.refl _)
      | (with_reducible exact LeO.none _)
      | (with_reducible refine LeO.ite ?_ ?_)
      | (with_reducible refine LeO.bind ?_ (fun _ => ?_))
      | exact ih0 _ _ _
      | exact LeO.none _
      | refine LeO.ite ?_ ?_
      | refine LeO.bind ?_ (fun _ => ?_)
theorem laws_szFieldS.mono : ∀ a0 a1 k, LeO (laws_szFieldS.f k a0 a1) (laws_szFieldS.f (k + 1) a0 a1) := by
  intro a0 a1 k
  have ih0 := laws_szFieldS.mono_l k
  unfold laws_szFieldS.f
  repeat' first
      | (with_reducible exact ih0 _ _ _)
      | (with_reducible exact LeO.refl _)
      | (with_reducible exact LeO.none _)
      | (with_reducible refine LeO.ite ?_ ?_)
      | (with_reducible refine LeO.bind ?_ (fun _ => ?_))
      | exact ih0 _ _ _
      | exact LeO.none _
      | refine LeO.ite ?_ ?_
      | refine LeO.bind ?_ (fun _ => ?_)
set_option maxHeartbeats 8000000 in
set_option maxRecDepth 100000 in
theorem laws_szFieldS.calls (k : Nat) (A0 : Option Addr) (c0 : Nat) (l0 : List (S110)) (a1 : Int) (r : Int) (w : World) (hr0 : Kd.C k110 w A0 l0.length l0) (hc0 : l0.length ≤ c0) (h : laws_szFieldS.f k l0 a1 = some r) :
    Calls Try.prog 48 #[.slice A0 l0.length c0, .int .i64 a1] w fun e w' => e = .returned (.int .i64 r) ∧ Below w.heap.size w w' := by
  have hu110 := Try.underlying110
  have HR0 := Aside0.mk hr0
  have HC0 := Aside0.mk hc0
  clear hr0 hc0
  have HB := Aside0.mk (Below.refl w.heap.size w)
  have H : (if (wrap64 (a1 - (l0.length : Int))) < 0 then (some (-1)) else (laws_szFieldS.l0 k l0 (wrap64 (a1 - (l0.length : Int))) 0)) = some r := h
  clear h
  by_cases c3 : (wrap64 (a1 - (l0.length : Int))) < 0
  · rw [if_pos c3] at H
    have c3b0 : decide ((wrap64 (a1 - (l0.length : Int))) < 0) = true := decide_eq_true c3
    clear c3
    obtain rfl := Option.some.inj H
    go_enter Try.func48, Try.ntmps48
    go_wp2
    go_ret
    exact ⟨Kit.er, Kit.bl⟩
  · rw [if_neg c3] at H
    have c3b0 : decide ((wrap64 (a1 - (l0.length : Int))) < 0) = false := decide_eq_false c3
    clear c3
    have H' := Aside0.mk H
    clear H
    go_enter Try.func48, Try.ntmps48
    go_wp2
    go_loopg [1, 5] k (fun kq v1 v5 w' => ∃ (x1_1 : Int) (x5_1 : Int), v1 = .int .i64 x1_1 ∧ v5 = .int .i64 x5_1 ∧ Aside0 (laws_szFieldS.l0 kq l0 x1_1 x5_1 = some r) ∧ Aside0 (kq ≤ k) ∧ Aside0 (Below w.heap.size w w'))
    case atStart => exact ⟨(wrap64 (a1 - (l0.length : Int))), (0), (by first | rfl | (simp; done) | (simp [*]; done)), (by first | rfl | (simp; done) | (simp [*]; done)), H', ⟨Nat.le_refl _⟩, ⟨Kit.bl⟩⟩
    case round =>
      clear H'
      try clear p2
      try clear c3
      try clear c3b0
      obtain ⟨x1_1, x5_1, rfl, rfl, HA, HK1, HB⟩ := hrel
      cases gk with
      | zero => exact absurd HA.out (by simp [laws_szFieldS.l0])
      | succ k1 =>
        have H := HA.out
        clear HA
        simp only [laws_szFieldS.l0] at H
        by_cases c4 : x5_1 < (l0.length : Int)
        · rw [if_pos c4] at H
          have c4b0 : decide (x5_1 < (l0.length : Int)) = true := decide_eq_true c4
          clear c4
          by_cases c5 : 0 ≤ x5_1
          · rw [if_pos c5] at H
            have c5b0 : decide (0 ≤ x5_1) = true := decide_eq_true c5
            clear c5
            replace H := Option.bind_eq_some_iff.mp H
            obtain ⟨t103, A60, H⟩ := H
            replace H : (if t103 < 0 then (some (-1)) else (laws_szFieldS.l0 k1 l0 t103 (wrap64 (x5_1 + 1)))) = some r := H
            have A6 := Aside0.mk A60
            clear A60
            by_cases c7 : t103 < 0
            · rw [if_pos c7] at H
              have c7b0 : decide (t103 < 0) = true := decide_eq_true c7
              clear c7
              obtain rfl := Option.some.inj H
              have p102 : 0 ≤ (x5_1 : Int) := of_decide_eq_true Kit.asm
              have q102 : x5_1 < (l0.length : Int) := of_decide_eq_true Kit.asm
              obtain ⟨ad102, e102, hx102_0, hx102_1⟩ := at_T110 HR0.out x5_1 p102 q102
              cases e102
              replace hx102_0 := Kit.hx HB.out hx102_0
              replace hx102_1 := Kit.hx HB.out hx102_1
              replace p102 := eq_true p102
              replace q102 := eq_true q102
              go_wp2_with (first | ((with_reducible refine Kit.gate_callee (f := 85) rfl ?_); refine goesL_ (some 23) rfl rfl Try.func85 (by kernel_rfl) rfl #[.agg #[.string ((rd_T110 l0 x5_1).f0), .string ((rd_T110 l0 x5_1).f1)], .int .i64 x1_1] rfl Kit.am ?_; (with_reducible refine (laws_szField.calls ((rd_T110 l0 x5_1).f0) ((rd_T110 l0 x5_1).f1) x1_1 t103 _ A6.out).mono ?_); rintro e w8 ⟨rfl, hb⟩; refine ⟨_, rfl, ?_⟩; replace HB := Kit.hB hb; (try clear hb); (try clear hb2); (try clear hk); (try clear hi)))
              go_ret
              exact ⟨Kit.er, Kit.bl⟩
            · rw [if_neg c7] at H
              have c7b0 : decide (t103 < 0) = false := decide_eq_false c7
              clear c7
              have H' := Aside0.mk H
              clear H
              have p102 : 0 ≤ (x5_1 : Int) := of_decide_eq_true Kit.asm
              have q102 : x5_1 < (l0.length : Int) := of_decide_eq_true Kit.asm
              obtain ⟨ad102, e102, hx102_0, hx102_1⟩ := at_T110 HR0.out x5_1 p102 q102
              cases e102
              replace hx102_0 := Kit.hx HB.out hx102_0
              replace hx102_1 := Kit.hx HB.out hx102_1
              replace p102 := eq_true p102
              replace q102 := eq_true q102
              go_wp2_with (first | ((with_reducible refine Kit.gate_callee (f := 85) rfl ?_); refine goesL_ (some 23) rfl rfl Try.func85 (by kernel_rfl) rfl #[.agg #[.string ((rd_T110 l0 x5_1).f0), .string ((rd_T110 l0 x5_1).f1)], .int .i64 x1_1] rfl Kit.am ?_; (with_reducible refine (laws_szField.calls ((rd_T110 l0 x5_1).f0) ((rd_T110 l0 x5_1).f1) x1_1 t103 _ A6.out).mono ?_); rintro e w9 ⟨rfl, hb⟩; refine ⟨_, rfl, ?_⟩; replace HB := Kit.hB hb; (try clear hb); (try clear hb2); (try clear hk); (try clear hi)))
              go_roundg k1
              case measure => have := HK1.out; omega
              case rel => exact ⟨(t103), (wrap64 (x5_1 + 1)), (by first | rfl | (simp; done) | (simp [*]; done)), (by first | rfl | (simp; done) | (simp [*]; done)), H', ⟨by have := HK1.out; omega⟩, ⟨Kit.bl⟩⟩
          · rw [if_neg c5] at H
            exact absurd H (by simp)
        · rw [if_neg c4] at H
          have c4b0 : decide (x5_1 < (l0.length : Int)) = false := decide_eq_false c4
          clear c4
          obtain rfl := Option.some.inj H
          go_wp2
          go_ret
          exact ⟨Kit.er, Kit.bl⟩

/-! ### laws_szResponse: function 15 -/
def laws_szResponse.f (k : Nat) (a0_0 : Int) (l0_1 : List (S110)) (a0_2 : ByteArray) (a1 : Int) : Option (Int) := (laws_szFieldS.f k l0_1 a1).bind fun t105 => (if t105 < 0 then (some (-1)) else (if (wrap64 (t105 - (a0_2.size : Int))) < 0 then (some (-1)) else (some (wrap64 (t105 - (a0_2.size : Int))))))
theorem laws_szResponse.mono : ∀ a0 a1 a2 a3 k, LeO (laws_szResponse.f k a0 a1 a2 a3) (laws_szResponse.f (k + 1) a0 a1 a2 a3) := by
  intro a0 a1 a2 a3 k
  unfold laws_szResponse.f
  repeat' first
      | (with_reducible exact laws_szFieldS.mono _ _ _)
      | (with_reducible exact LeO.refl _)
      | (with_reducible exact LeO.none _)
      | (with_reducible refine LeO.ite ?_ ?_)
      | (with_reducible refine LeO.bind ?_ (fun _ => ?_))
      | exact laws_szFieldS.mono _ _ _
      | exact LeO.none _
      | refine LeO.ite ?_ ?_
      | refine LeO.bind ?_ (fun _ => ?_)
set_option maxHeartbeats 8000000 in
set_option maxRecDepth 100000 in
theorem laws_szResponse.calls (k : Nat) (a0_0 : Int) (A0_1 : Option Addr) (c0_1 : Nat) (l0_1 : List (S110)) (a0_2 : ByteArray) (a1 : Int) (r : Int) (w : World) (hr0_1 : Kd.C k110 w A0_1 l0_1.length l0_1) (hc0_1 : l0_1.length ≤ c0_1) (h : laws_szResponse.f k a0_0 l0_1 a0_2 a1 = some r) :
    Calls Try.prog 15 #[.agg #[.int .i64 a0_0, .slice A0_1 l0_1.length c0_1, .string a0_2], .int .i64 a1] w fun e w' => e = .returned (.int .i64 r) ∧ Below w.heap.size w w' := by
  have hu38 := Try.underlying38
  have HR0_1 := Aside0.mk hr0_1
  have HC0_1 := Aside0.mk hc0_1
  clear hr0_1 hc0_1
  have HB := Aside0.mk (Below.refl w.heap.size w)
  have H : ((laws_szFieldS.f k l0_1 a1).bind fun t105 => (if t105 < 0 then (some (-1)) else (if (wrap64 (t105 - (a0_2.size : Int))) < 0 then (some (-1)) else (some (wrap64 (t105 - (a0_2.size : Int))))))) = some r := h
  clear h
  replace H := Option.bind_eq_some_iff.mp H
  obtain ⟨t105, A30, H⟩ := H
  replace H : (if t105 < 0 then (some (-1)) else (if (wrap64 (t105 - (a0_2.size : Int))) < 0 then (some (-1)) else (some (wrap64 (t105 - (a0_2.size : Int)))))) = some r := H
  have A3 := Aside0.mk A30
  clear A30
  by_cases c4 : t105 < 0
  · rw [if_pos c4] at H
    have c4b0 : decide (t105 < 0) = true := decide_eq_true c4
    clear c4
    obtain rfl := Option.some.inj H
    go_enter Try.func15, Try.ntmps15
    go_wp2_with (first | ((with_reducible refine gate_dst (N := 2) rfl ?_); refine box_event ?hg (N := 2) ?hd (cs := #[.int .i64 a0_0, .slice A0_1 l0_1.length c0_1, .string a0_2]) (t := 38) ?hr ?_; (case hd => rfl); (case hg => rfl); (case hr => exact Kit.hr); intro gb104 hg w5 hbox hb; have BK104 := Aside0.mk (hbox); have GW104 := Kit.gX (w := w) hg; have GE104 := GW104; replace HB := Kit.hB hb; clear hb hbox hg; obtain ⟨hcz6_0, hcz6_1, hcz6_2, hfz6_0, hfz6_1, hfz6_2⟩ := Kit.c3 BK104.out) | ((with_reducible refine Kit.gate_callee (f := 48) rfl ?_); refine goesL_ (some 8) rfl rfl Try.func48 (by kernel_rfl) rfl #[.slice A0_1 l0_1.length c0_1, .int .i64 a1] rfl Kit.am ?_; (with_reducible refine (laws_szFieldS.calls k _ _ l0_1 a1 t105 _ ?side1 ?side2 A3.out).mono ?_); (case side1 => exact Kit.cr HR0_1.out HB.out); (case side2 => exact HC0_1.out); rintro e w7 ⟨rfl, hb⟩; refine ⟨_, rfl, ?_⟩; replace BK104 := Kit.bB BK104 hb; replace HB := Kit.hB hb; (try clear hb); (try clear hb2); (try clear hk); (try clear hi)))
    go_ret
    exact ⟨Kit.er, Kit.bl⟩
  · rw [if_neg c4] at H
    have c4b0 : decide (t105 < 0) = false := decide_eq_false c4
    clear c4
    by_cases c8 : (wrap64 (t105 - (a0_2.size : Int))) < 0
    · rw [if_pos c8] at H
      have c8b0 : decide ((wrap64 (t105 - (a0_2.size : Int))) < 0) = true := decide_eq_true c8
      clear c8
      obtain rfl := Option.some.inj H
      go_enter Try.func15, Try.ntmps15
      go_wp2_with (first | ((with_reducible refine gate_dst (N := 2) rfl ?_); refine box_event ?hg (N := 2) ?hd (cs := #[.int .i64 a0_0, .slice A0_1 l0_1.length c0_1, .string a0_2]) (t := 38) ?hr ?_; (case hd => rfl); (case hg => rfl); (case hr => exact Kit.hr); intro gb104 hg w9 hbox hb; have BK104 := Aside0.mk (hbox); have GW104 := Kit.gX (w := w) hg; have GE104 := GW104; replace HB := Kit.hB hb; clear hb hbox hg; obtain ⟨hcz10_0, hcz10_1, hcz10_2, hfz10_0, hfz10_1, hfz10_2⟩ := Kit.c3 BK104.out) | ((with_reducible refine Kit.gate_callee (f := 48) rfl ?_); refine goesL_ (some 8) rfl rfl Try.func48 (by kernel_rfl) rfl #[.slice A0_1 l0_1.length c0_1, .int .i64 a1] rfl Kit.am ?_; (with_reducible refine (laws_szFieldS.calls k _ _ l0_1 a1 t105 _ ?side1 ?side2 A3.out).mono ?_); (case side1 => exact Kit.cr HR0_1.out HB.out); (case side2 => exact HC0_1.out); rintro e w11 ⟨rfl, hb⟩; refine ⟨_, rfl, ?_⟩; replace BK104 := Kit.bB BK104 hb; replace HB := Kit.hB hb; (try clear hb); (try clear hb2); (try clear hk); (try clear hi); obtain ⟨hcz12_0, hcz12_1, hcz12_2, hfz12_0, hfz12_1, hfz12_2⟩ := Kit.c3 BK104.out))
      go_ret
      exact ⟨Kit.er, Kit.bl⟩
    · rw [if_neg c8] at H
      have c8b0 : decide ((wrap64 (t105 - (a0_2.size : Int))) < 0) = false := decide_eq_false c8
      clear c8
      obtain rfl := Option.some.inj H
      go_enter Try.func15, Try.ntmps15
      go_wp2_with (first | ((with_reducible refine gate_dst (N := 2) rfl ?_); refine box_event ?hg (N := 2) ?hd (cs := #[.int .i64 a0_0, .slice A0_1 l0_1.length c0_1, .string a0_2]) (t := 38) ?hr ?_; (case hd => rfl); (case hg => rfl); (case hr => exact Kit.hr); intro gb104 hg w13 hbox hb; have BK104 := Aside0.mk (hbox); have GW104 := Kit.gX (w := w) hg; have GE104 := GW104; replace HB := Kit.hB hb; clear hb hbox hg; obtain ⟨hcz14_0, hcz14_1, hcz14_2, hfz14_0, hfz14_1, hfz14_2⟩ := Kit.c3 BK104.out) | ((with_reducible refine Kit.gate_callee (f := 48) rfl ?_); refine goesL_ (some 8) rfl rfl Try.func48 (by kernel_rfl) rfl #[.slice A0_1 l0_1.length c0_1, .int .i64 a1] rfl Kit.am ?_; (with_reducible refine (laws_szFieldS.calls k _ _ l0_1 a1 t105 _ ?side1 ?side2 A3.out).mono ?_); (case side1 => exact Kit.cr HR0_1.out HB.out); (case side2 => exact HC0_1.out); rintro e w15 ⟨rfl, hb⟩; refine ⟨_, rfl, ?_⟩; replace BK104 := Kit.bB BK104 hb; replace HB := Kit.hB hb; (try clear hb); (try clear hb2); (try clear hk); (try clear hi); obtain ⟨hcz16_0, hcz16_1, hcz16_2, hfz16_0, hfz16_1, hfz16_2⟩ := Kit.c3 BK104.out))
      go_ret
      exact ⟨Kit.er, Kit.bl⟩

/-! ### laws_szStored: function 127 -/
def laws_szStored.f (k : Nat) (a0_0 : ByteArray) (l0_1 : List (S110)) (a0_2 : Int) (l0_3 : List (S110)) (a0_4 : ByteArray) (a0_5 : Int) (a0_6 : Int) (a1 : Int) : Option (Int) := if (wrap64 (a1 - (a0_0.size : Int))) < 0 then (some (-1)) else ((laws_szFieldS.f k l0_1 (wrap64 (a1 - (a0_0.size : Int)))).bind fun t107 => (if t107 < 0 then (some (-1)) else ((laws_szResponse.f k a0_2 l0_3 a0_4 t107).bind fun t108 => (if t108 < 0 then (some (-1)) else (some t108)))))
theorem laws_szStored.mono : ∀ a0 a1 a2 a3 a4 a5 a6 a7 k, LeO (laws_szStored.f k a0 a1 a2 a3 a4 a5 a6 a7) (laws_szStored.f (k + 1) a0 a1 a2 a3 a4 a5 a6 a7) := by
  intro a0 a1 a2 a3 a4 a5 a6 a7 k
  unfold laws_szStored.f
  repeat' first
      | (with_reducible exact laws_szFieldS.mono _ _ _)
      | (with_reducible exact laws_szResponse.mono _ _ _ _ _)
      | (with_reducible exact LeO.refl _)
      | (with_reducible exact LeO.none _)
      | (with_reducible refine LeO.ite ?_ ?_)
      | (with_reducible refine LeO.bind ?_ (fun _ => ?_))
      | exact laws_szFieldS.mono _ _ _
      | exact laws_szResponse.mono _ _ _ _ _
      | exact LeO.none _
      | refine LeO.ite ?_ ?_
      | refine LeO.bind ?_ (fun _ => ?_)
set_option maxHeartbeats 8000000 in
set_option maxRecDepth 100000 in
theorem laws_szStored.calls (k : Nat) (a0_0 : ByteArray) (A0_1 : Option Addr) (c0_1 : Nat) (l0_1 : List (S110)) (a0_2 : Int) (A0_3 : Option Addr) (c0_3 : Nat) (l0_3 : List (S110)) (a0_4 : ByteArray) (a0_5 : Int) (a0_6 : Int) (a1 : Int) (r : Int) (w : World) (hr0_1 : Kd.C k110 w A0_1 l0_1.length l0_1) (hc0_1 : l0_1.length ≤ c0_1) (hr0_3 : Kd.C k110 w A0_3 l0_3.length l0_3) (hc0_3 : l0_3.length ≤ c0_3) (h : laws_szStored.f k a0_0 l0_1 a0_2 l0_3 a0_4 a0_5 a0_6 a1 = some r) :
    Calls Try.prog 127 #[.agg #[.string a0_0, .slice A0_1 l0_1.length c0_1, .int .i64 a0_2, .slice A0_3 l0_3.length c0_3, .string a0_4, .int .i64 a0_5, .int .i64 a0_6], .int .i64 a1] w fun e w' => e = .returned (.int .i64 r) ∧ Below w.heap.size w w' := by
  have hu157 := Try.underlying157
  have hu38 := Try.underlying38
  have HR0_1 := Aside0.mk hr0_1
  have HC0_1 := Aside0.mk hc0_1
  clear hr0_1 hc0_1
  have HR0_3 := Aside0.mk hr0_3
  have HC0_3 := Aside0.mk hc0_3
  clear hr0_3 hc0_3
  have HB := Aside0.mk (Below.refl w.heap.size w)
  have H : (if (wrap64 (a1 - (a0_0.size : Int))) < 0 then (some (-1)) else ((laws_szFieldS.f k l0_1 (wrap64 (a1 - (a0_0.size : Int)))).bind fun t107 => (if t107 < 0 then (some (-1)) else ((laws_szResponse.f k a0_2 l0_3 a0_4 t107).bind fun t108 => (if t108 < 0 then (some (-1)) else (some t108)))))) = some r := h
  clear h
  by_cases c3 : (wrap64 (a1 - (a0_0.size : Int))) < 0
  · rw [if_pos c3] at H
    have c3b0 : decide ((wrap64 (a1 - (a0_0.size : Int))) < 0) = true := decide_eq_true c3
    clear c3
    obtain rfl := Option.some.inj H
    go_enter Try.func127, Try.ntmps127
    go_wp2_with (first | ((with_reducible refine gate_dst (N := 2) rfl ?_); refine box_event ?hg (N := 2) ?hd (cs := #[.string a0_0, .slice A0_1 l0_1.length c0_1, .int .i64 a0_2, .slice A0_3 l0_3.length c0_3, .string a0_4, .int .i64 a0_5, .int .i64 a0_6]) (t := 157) ?hr ?_; (case hd => rfl); (case hg => rfl); (case hr => exact Kit.hr); intro gb106 hg w4 hbox hb; have BK106 := Aside0.mk (hbox); have GW106 := Kit.gX (w := w) hg; have GE106 := GW106; replace HB := Kit.hB hb; clear hb hbox hg; obtain ⟨hcz5_0, hcz5_1, hcz5_2, hcz5_3, hcz5_4, hcz5_5, hcz5_6, hfz5_0, hfz5_1, hfz5_2, hfz5_3, hfz5_4, hfz5_5, hfz5_6⟩ := Kit.c7 BK106.out))
    go_ret
    exact ⟨Kit.er, Kit.bl⟩
  · rw [if_neg c3] at H
    have c3b0 : decide ((wrap64 (a1 - (a0_0.size : Int))) < 0) = false := decide_eq_false c3
    clear c3
    replace H := Option.bind_eq_some_iff.mp H
    obtain ⟨t107, A60, H⟩ := H
    replace H : (if t107 < 0 then (some (-1)) else ((laws_szResponse.f k a0_2 l0_3 a0_4 t107).bind fun t108 => (if t108 < 0 then (some (-1)) else (some t108)))) = some r := H
    have A6 := Aside0.mk A60
    clear A60
    by_cases c7 : t107 < 0
    · rw [if_pos c7] at H
      have c7b0 : decide (t107 < 0) = true := decide_eq_true c7
      clear c7
      obtain rfl := Option.some.inj H
      go_enter Try.func127, Try.ntmps127
      go_wp2_with (first | ((with_reducible refine gate_dst (N := 2) rfl ?_); refine box_event ?hg (N := 2) ?hd (cs := #[.string a0_0, .slice A0_1 l0_1.length c0_1, .int .i64 a0_2, .slice A0_3 l0_3.length c0_3, .string a0_4, .int .i64 a0_5, .int .i64 a0_6]) (t := 157) ?hr ?_; (case hd => rfl); (case hg => rfl); (case hr => exact Kit.hr); intro gb106 hg w8 hbox hb; have BK106 := Aside0.mk (hbox); have GW106 := Kit.gX (w := w) hg; have GE106 := GW106; replace HB := Kit.hB hb; clear hb hbox hg; obtain ⟨hcz9_0, hcz9_1, hcz9_2, hcz9_3, hcz9_4, hcz9_5, hcz9_6, hfz9_0, hfz9_1, hfz9_2, hfz9_3, hfz9_4, hfz9_5, hfz9_6⟩ := Kit.c7 BK106.out) | ((with_reducible refine Kit.gate_callee (f := 48) rfl ?_); refine goesL_ (some 15) rfl rfl Try.func48 (by kernel_rfl) rfl #[.slice A0_1 l0_1.length c0_1, .int .i64 (wrap64 (a1 - (a0_0.size : Int)))] rfl Kit.am ?_; (with_reducible refine (laws_szFieldS.calls k _ _ l0_1 (wrap64 (a1 - (a0_0.size : Int))) t107 _ ?side1 ?side2 A6.out).mono ?_); (case side1 => exact Kit.cr HR0_1.out HB.out); (case side2 => exact HC0_1.out); rintro e w10 ⟨rfl, hb⟩; refine ⟨_, rfl, ?_⟩; replace BK106 := Kit.bB BK106 hb; replace HB := Kit.hB hb; (try clear hb); (try clear hb2); (try clear hk); (try clear hi)))
      go_ret
      exact ⟨Kit.er, Kit.bl⟩
    · rw [if_neg c7] at H
      have c7b0 : decide (t107 < 0) = false := decide_eq_false c7
      clear c7
      replace H := Option.bind_eq_some_iff.mp H
      obtain ⟨t108, A110, H⟩ := H
      replace H : (if t108 < 0 then (some (-1)) else (some t108)) = some r := H
      have A11 := Aside0.mk A110
      clear A110
      by_cases c12 : t108 < 0
      · rw [if_pos c12] at H
        have c12b0 : decide (t108 < 0) = true := decide_eq_true c12
        clear c12
        obtain rfl := Option.some.inj H
        go_enter Try.func127, Try.ntmps127
        go_wp2_with (first | ((with_reducible refine gate_dst (N := 2) rfl ?_); refine box_event ?hg (N := 2) ?hd (cs := #[.string a0_0, .slice A0_1 l0_1.length c0_1, .int .i64 a0_2, .slice A0_3 l0_3.length c0_3, .string a0_4, .int .i64 a0_5, .int .i64 a0_6]) (t := 157) ?hr ?_; (case hd => rfl); (case hg => rfl); (case hr => exact Kit.hr); intro gb106 hg w13 hbox hb; have BK106 := Aside0.mk (hbox); have GW106 := Kit.gX (w := w) hg; have GE106 := GW106; replace HB := Kit.hB hb; clear hb hbox hg; obtain ⟨hcz14_0, hcz14_1, hcz14_2, hcz14_3, hcz14_4, hcz14_5, hcz14_6, hfz14_0, hfz14_1, hfz14_2, hfz14_3, hfz14_4, hfz14_5, hfz14_6⟩ := Kit.c7 BK106.out) | ((with_reducible refine Kit.gate_callee (f := 48) rfl ?_); refine goesL_ (some 15) rfl rfl Try.func48 (by kernel_rfl) rfl #[.slice A0_1 l0_1.length c0_1, .int .i64 (wrap64 (a1 - (a0_0.size : Int)))] rfl Kit.am ?_; (with_reducible refine (laws_szFieldS.calls k _ _ l0_1 (wrap64 (a1 - (a0_0.size : Int))) t107 _ ?side1 ?side2 A6.out).mono ?_); (case side1 => exact Kit.cr HR0_1.out HB.out); (case side2 => exact HC0_1.out); rintro e w15 ⟨rfl, hb⟩; refine ⟨_, rfl, ?_⟩; replace BK106 := Kit.bB BK106 hb; replace HB := Kit.hB hb; (try clear hb); (try clear hb2); (try clear hk); (try clear hi); obtain ⟨hcz16_0, hcz16_1, hcz16_2, hcz16_3, hcz16_4, hcz16_5, hcz16_6, hfz16_0, hfz16_1, hfz16_2, hfz16_3, hfz16_4, hfz16_5, hfz16_6⟩ := Kit.c7 BK106.out) | ((with_reducible refine Kit.gate_callee (f := 15) rfl ?_); refine goesL_ (some 21) rfl rfl Try.func15 (by kernel_rfl) rfl #[.agg #[.int .i64 a0_2, .slice A0_3 l0_3.length c0_3, .string a0_4], .int .i64 t107] rfl Kit.am ?_; (with_reducible refine (laws_szResponse.calls k a0_2 _ _ l0_3 a0_4 t107 t108 _ ?side1 ?side2 A11.out).mono ?_); (case side1 => exact Kit.cr HR0_3.out HB.out); (case side2 => exact HC0_3.out); rintro e w17 ⟨rfl, hb⟩; refine ⟨_, rfl, ?_⟩; replace BK106 := Kit.bB BK106 hb; replace HB := Kit.hB hb; (try clear hb); (try clear hb2); (try clear hk); (try clear hi)))
        go_ret
        exact ⟨Kit.er, Kit.bl⟩
      · rw [if_neg c12] at H
        have c12b0 : decide (t108 < 0) = false := decide_eq_false c12
        clear c12
        obtain rfl := Option.some.inj H
        go_enter Try.func127, Try.ntmps127
        go_wp2_with (first | ((with_reducible refine gate_dst (N := 2) rfl ?_); refine box_event ?hg (N := 2) ?hd (cs := #[.string a0_0, .slice A0_1 l0_1.length c0_1, .int .i64 a0_2, .slice A0_3 l0_3.length c0_3, .string a0_4, .int .i64 a0_5, .int .i64 a0_6]) (t := 157) ?hr ?_; (case hd => rfl); (case hg => rfl); (case hr => exact Kit.hr); intro gb106 hg w18 hbox hb; have BK106 := Aside0.mk (hbox); have GW106 := Kit.gX (w := w) hg; have GE106 := GW106; replace HB := Kit.hB hb; clear hb hbox hg; obtain ⟨hcz19_0, hcz19_1, hcz19_2, hcz19_3, hcz19_4, hcz19_5, hcz19_6, hfz19_0, hfz19_1, hfz19_2, hfz19_3, hfz19_4, hfz19_5, hfz19_6⟩ := Kit.c7 BK106.out) | ((with_reducible refine Kit.gate_callee (f := 48) rfl ?_); refine goesL_ (some 15) rfl rfl Try.func48 (by kernel_rfl) rfl #[.slice A0_1 l0_1.length c0_1, .int .i64 (wrap64 (a1 - (a0_0.size : Int)))] rfl Kit.am ?_; (with_reducible refine (laws_szFieldS.calls k _ _ l0_1 (wrap64 (a1 - (a0_0.size : Int))) t107 _ ?side1 ?side2 A6.out).mono ?_); (case side1 => exact Kit.cr HR0_1.out HB.out); (case side2 => exact HC0_1.out); rintro e w20 ⟨rfl, hb⟩; refine ⟨_, rfl, ?_⟩; replace BK106 := Kit.bB BK106 hb; replace HB := Kit.hB hb; (try clear hb); (try clear hb2); (try clear hk); (try clear hi); obtain ⟨hcz21_0, hcz21_1, hcz21_2, hcz21_3, hcz21_4, hcz21_5, hcz21_6, hfz21_0, hfz21_1, hfz21_2, hfz21_3, hfz21_4, hfz21_5, hfz21_6⟩ := Kit.c7 BK106.out) | ((with_reducible refine Kit.gate_callee (f := 15) rfl ?_); refine goesL_ (some 21) rfl rfl Try.func15 (by kernel_rfl) rfl #[.agg #[.int .i64 a0_2, .slice A0_3 l0_3.length c0_3, .string a0_4], .int .i64 t107] rfl Kit.am ?_; (with_reducible refine (laws_szResponse.calls k a0_2 _ _ l0_3 a0_4 t107 t108 _ ?side1 ?side2 A11.out).mono ?_); (case side1 => exact Kit.cr HR0_3.out HB.out); (case side2 => exact HC0_3.out); rintro e w22 ⟨rfl, hb⟩; refine ⟨_, rfl, ?_⟩; replace BK106 := Kit.bB BK106 hb; replace HB := Kit.hB hb; (try clear hb); (try clear hb2); (try clear hk); (try clear hi)))
        go_ret
        exact ⟨Kit.er, Kit.bl⟩

/-! ### laws_szSlot: function 120 -/
def laws_szSlot.f (k : Nat) (a0_0 : ByteArray) (l0_1 : List (S110)) (a0_2 : Int) (l0_3 : List (S110)) (a0_4 : ByteArray) (a0_5 : Int) (a0_6 : Int) (a0_7 : Bool) (a1 : Int) : Option (Int) := (laws_szStored.f k a0_0 l0_1 a0_2 l0_3 a0_4 a0_5 a0_6 a1).bind fun t110 => (if t110 < 0 then (some (-1)) else (some t110))
theorem laws_szSlot.mono : ∀ a0 a1 a2 a3 a4 a5 a6 a7 a8 k, LeO (laws_szSlot.f k a0 a1 a2 a3 a4 a5 a6 a7 a8) (laws_szSlot.f (k + 1) a0 a1 a2 a3 a4 a5 a6 a7 a8) := by
  intro a0 a1 a2 a3 a4 a5 a6 a7 a8 k
  unfold laws_szSlot.f
  repeat' first
      | (with_reducible exact laws_szStored.mono _ _ _ _ _ _ _ _ _)
      | (with_reducible exact LeO.refl _)
      | (with_reducible exact LeO.none _)
      | (with_reducible refine LeO.ite ?_ ?_)
      | (with_reducible refine LeO.bind ?_ (fun _ => ?_))
      | exact laws_szStored.mono _ _ _ _ _ _ _ _ _
      | exact LeO.none _
      | refine LeO.ite ?_ ?_
      | refine LeO.bind ?_ (fun _ => ?_)
set_option maxHeartbeats 8000000 in
set_option maxRecDepth 100000 in
theorem laws_szSlot.calls (k : Nat) (a0_0 : ByteArray) (A0_1 : Option Addr) (c0_1 : Nat) (l0_1 : List (S110)) (a0_2 : Int) (A0_3 : Option Addr) (c0_3 : Nat) (l0_3 : List (S110)) (a0_4 : ByteArray) (a0_5 : Int) (a0_6 : Int) (a0_7 : Bool) (a1 : Int) (r : Int) (w : World) (hr0_1 : Kd.C k110 w A0_1 l0_1.length l0_1) (hc0_1 : l0_1.length ≤ c0_1) (hr0_3 : Kd.C k110 w A0_3 l0_3.length l0_3) (hc0_3 : l0_3.length ≤ c0_3) (h : laws_szSlot.f k a0_0 l0_1 a0_2 l0_3 a0_4 a0_5 a0_6 a0_7 a1 = some r) :
    Calls Try.prog 120 #[.agg #[.string a0_0, .slice A0_1 l0_1.length c0_1, .int .i64 a0_2, .slice A0_3 l0_3.length c0_3, .string a0_4, .int .i64 a0_5, .int .i64 a0_6, .bool a0_7], .int .i64 a1] w fun e w' => e = .returned (.int .i64 r) ∧ Below w.heap.size w w' := by
  have hu159 := Try.underlying159
  have hu157 := Try.underlying157
  have HR0_1 := Aside0.mk hr0_1
  have HC0_1 := Aside0.mk hc0_1
  clear hr0_1 hc0_1
  have HR0_3 := Aside0.mk hr0_3
  have HC0_3 := Aside0.mk hc0_3
  clear hr0_3 hc0_3
  have HB := Aside0.mk (Below.refl w.heap.size w)
  have H : ((laws_szStored.f k a0_0 l0_1 a0_2 l0_3 a0_4 a0_5 a0_6 a1).bind fun t110 => (if t110 < 0 then (some (-1)) else (some t110))) = some r := h
  clear h
  replace H := Option.bind_eq_some_iff.mp H
  obtain ⟨t110, A30, H⟩ := H
  replace H : (if t110 < 0 then (some (-1)) else (some t110)) = some r := H
  have A3 := Aside0.mk A30
  clear A30
  by_cases c4 : t110 < 0
  · rw [if_pos c4] at H
    have c4b0 : decide (t110 < 0) = true := decide_eq_true c4
    clear c4
    obtain rfl := Option.some.inj H
    go_enter Try.func120, Try.ntmps120
    go_wp2_with (first | ((with_reducible refine gate_dst (N := 2) rfl ?_); refine box_event ?hg (N := 2) ?hd (cs := #[.string a0_0, .slice A0_1 l0_1.length c0_1, .int .i64 a0_2, .slice A0_3 l0_3.length c0_3, .string a0_4, .int .i64 a0_5, .int .i64 a0_6, .bool a0_7]) (t := 159) ?hr ?_; (case hd => rfl); (case hg => rfl); (case hr => exact Kit.hr); intro gb109 hg w5 hbox hb; have BK109 := Aside0.mk (hbox); have GW109 := Kit.gX (w := w) hg; have GE109 := GW109; replace HB := Kit.hB hb; clear hb hbox hg; obtain ⟨hcz6_0, hcz6_1, hcz6_2, hcz6_3, hcz6_4, hcz6_5, hcz6_6, hcz6_7, hfz6_0, hfz6_1, hfz6_2, hfz6_3, hfz6_4, hfz6_5, hfz6_6, hfz6_7⟩ := Kit.c8 BK109.out) | ((with_reducible refine Kit.gate_callee (f := 127) rfl ?_); refine goesL_ (some 8) rfl rfl Try.func127 (by kernel_rfl) rfl #[.agg #[.string a0_0, .slice A0_1 l0_1.length c0_1, .int .i64 a0_2, .slice A0_3 l0_3.length c0_3, .string a0_4, .int .i64 a0_5, .int .i64 a0_6], .int .i64 a1] rfl Kit.am ?_; (with_reducible refine (laws_szStored.calls k a0_0 _ _ l0_1 a0_2 _ _ l0_3 a0_4 a0_5 a0_6 a1 t110 _ ?side1 ?side2 ?side3 ?side4 A3.out).mono ?_); (case side1 => exact Kit.cr HR0_1.out HB.out); (case side2 => exact HC0_1.out); (case side3 => exact Kit.cr HR0_3.out HB.out); (case side4 => exact HC0_3.out); rintro e w7 ⟨rfl, hb⟩; refine ⟨_, rfl, ?_⟩; replace BK109 := Kit.bB BK109 hb; replace HB := Kit.hB hb; (try clear hb); (try clear hb2); (try clear hk); (try clear hi)))
    go_ret
    exact ⟨Kit.er, Kit.bl⟩
  · rw [if_neg c4] at H
    have c4b0 : decide (t110 < 0) = false := decide_eq_false c4
    clear c4
    obtain rfl := Option.some.inj H
    go_enter Try.func120, Try.ntmps120
    go_wp2_with (first | ((with_reducible refine gate_dst (N := 2) rfl ?_); refine box_event ?hg (N := 2) ?hd (cs := #[.string a0_0, .slice A0_1 l0_1.length c0_1, .int .i64 a0_2, .slice A0_3 l0_3.length c0_3, .string a0_4, .int .i64 a0_5, .int .i64 a0_6, .bool a0_7]) (t := 159) ?hr ?_; (case hd => rfl); (case hg => rfl); (case hr => exact Kit.hr); intro gb109 hg w8 hbox hb; have BK109 := Aside0.mk (hbox); have GW109 := Kit.gX (w := w) hg; have GE109 := GW109; replace HB := Kit.hB hb; clear hb hbox hg; obtain ⟨hcz9_0, hcz9_1, hcz9_2, hcz9_3, hcz9_4, hcz9_5, hcz9_6, hcz9_7, hfz9_0, hfz9_1, hfz9_2, hfz9_3, hfz9_4, hfz9_5, hfz9_6, hfz9_7⟩ := Kit.c8 BK109.out) | ((with_reducible refine Kit.gate_callee (f := 127) rfl ?_); refine goesL_ (some 8) rfl rfl Try.func127 (by kernel_rfl) rfl #[.agg #[.string a0_0, .slice A0_1 l0_1.length c0_1, .int .i64 a0_2, .slice A0_3 l0_3.length c0_3, .string a0_4, .int .i64 a0_5, .int .i64 a0_6], .int .i64 a1] rfl Kit.am ?_; (with_reducible refine (laws_szStored.calls k a0_0 _ _ l0_1 a0_2 _ _ l0_3 a0_4 a0_5 a0_6 a1 t110 _ ?side1 ?side2 ?side3 ?side4 A3.out).mono ?_); (case side1 => exact Kit.cr HR0_1.out HB.out); (case side2 => exact HC0_1.out); (case side3 => exact Kit.cr HR0_3.out HB.out); (case side4 => exact HC0_3.out); rintro e w10 ⟨rfl, hb⟩; refine ⟨_, rfl, ?_⟩; replace BK109 := Kit.bB BK109 hb; replace HB := Kit.hB hb; (try clear hb); (try clear hb2); (try clear hk); (try clear hi)))
    go_ret
    exact ⟨Kit.er, Kit.bl⟩

/-! ### laws_szSlotS: function 109 -/
def laws_szSlotS.l0 : Nat → List (S159) → Int → Int → Option (Int)
  | 0, _, _, _ => none
  | k + 1, x0, x1, x5 => if x5 < (x0.length : Int) then (if 0 ≤ x5 then ((laws_szSlot.f k ((rd_T159 x0 x5).f0.f0) ((rd_T159 x0 x5).f0.f1) ((rd_T159 x0 x5).f0.f2.f0) ((rd_T159 x0 x5).f0.f2.f1) ((rd_T159 x0 x5).f0.f2.f2) ((rd_T159 x0 x5).f0.f3) ((rd_T159 x0 x5).f0.f4) ((rd_T159 x0 x5).f1) x1).bind fun t112 => (if t112 < 0 then (some (-1)) else (laws_szSlotS.l0 k x0 t112 (wrap64 (x5 + 1))))) else (none)) else (some x1)
def laws_szSlotS.f (k : Nat) (l0 : List (S159)) (a1 : Int) : Option (Int) := if (wrap64 (a1 - (l0.length : Int))) < 0 then (some (-1)) else (laws_szSlotS.l0 k l0 (wrap64 (a1 - (l0.length : Int))) 0)
theorem laws_szSlotS.mono_l : ∀ k, (∀ y0 y1 y2, LeO (laws_szSlotS.l0 k y0 y1 y2) (laws_szSlotS.l0 (k + 1) y0 y1 y2))
  | 0 => fun _ _ _ r h => by simp [laws_szSlotS.l0] at h
  | k + 1 => by
    have ih0 := laws_szSlotS.mono_l k
    · intro y0 y1 y2
      unfold laws_szSlotS.l0
      repeat' first
      | (with_reducible exact ih0 _ _ _)
      | (with_reducible exact laws_szSlot.mono _ _ _ _ _ _ _ _ _ _)
      | (with_reducible exact LeO.refl _)
      | (with_reducible exact LeO.none _)
      | (with_reducible refine LeO.ite ?_ ?_)
      | (with_reducible refine LeO.bind ?_ (fun _ => ?_))
      | exact ih0 _ _ _
      | exact laws_szSlot.mono _ _ _ _ _ _ _ _ _ _
      | exact LeO.none _
      | refine LeO.ite ?_ ?_
      | refine LeO.bind ?_ (fun _ => ?_)
theorem laws_szSlotS.mono : ∀ a0 a1 k, LeO (laws_szSlotS.f k a0 a1) (laws_szSlotS.f (k + 1) a0 a1) := by
  intro a0 a1 k
  have ih0 := laws_szSlotS.mono_l k
  unfold laws_szSlotS.f
  repeat' first
      | (with_reducible exact ih0 _ _ _)
      | (with_reducible exact laws_szSlot.mono _ _ _ _ _ _ _ _ _ _)
      | (with_reducible exact LeO.refl _)
      | (with_reducible exact LeO.none _)
      | (with_reducible refine LeO.ite ?_ ?_)
      | (with_reducible refine LeO.bind ?_ (fun _ => ?_))
      | exact ih0 _ _ _
      | exact laws_szSlot.mono _ _ _ _ _ _ _ _ _ _
      | exact LeO.none _
      | refine LeO.ite ?_ ?_
      | refine LeO.bind ?_ (fun _ => ?_)
set_option maxHeartbeats 8000000 in
set_option maxRecDepth 100000 in
theorem laws_szSlotS.calls (k : Nat) (A0 : Option Addr) (c0 : Nat) (l0 : List (S159)) (a1 : Int) (r : Int) (w : World) (hr0 : Kd.C k159 w A0 l0.length l0) (hc0 : l0.length ≤ c0) (h : laws_szSlotS.f k l0 a1 = some r) :
    Calls Try.prog 109 #[.slice A0 l0.length c0, .int .i64 a1] w fun e w' => e = .returned (.int .i64 r) ∧ Below w.heap.size w w' := by
  have hu159 := Try.underlying159
  have HR0 := Aside0.mk hr0
  have HC0 := Aside0.mk hc0
  clear hr0 hc0
  have HB := Aside0.mk (Below.refl w.heap.size w)
  have H : (if (wrap64 (a1 - (l0.length : Int))) < 0 then (some (-1)) else (laws_szSlotS.l0 k l0 (wrap64 (a1 - (l0.length : Int))) 0)) = some r := h
  clear h
  by_cases c3 : (wrap64 (a1 - (l0.length : Int))) < 0
  · rw [if_pos c3] at H
    have c3b0 : decide ((wrap64 (a1 - (l0.length : Int))) < 0) = true := decide_eq_true c3
    clear c3
    obtain rfl := Option.some.inj H
    go_enter Try.func109, Try.ntmps109
    go_wp2
    go_ret
    exact ⟨Kit.er, Kit.bl⟩
  · rw [if_neg c3] at H
    have c3b0 : decide ((wrap64 (a1 - (l0.length : Int))) < 0) = false := decide_eq_false c3
    clear c3
    have H' := Aside0.mk H
    clear H
    go_enter Try.func109, Try.ntmps109
    go_wp2
    go_loopg [1, 5] k (fun kq v1 v5 w' => ∃ (x1_1 : Int) (x5_1 : Int), v1 = .int .i64 x1_1 ∧ v5 = .int .i64 x5_1 ∧ Aside0 (laws_szSlotS.l0 kq l0 x1_1 x5_1 = some r) ∧ Aside0 (kq ≤ k) ∧ Aside0 (Below w.heap.size w w'))
    case atStart => exact ⟨(wrap64 (a1 - (l0.length : Int))), (0), (by first | rfl | (simp; done) | (simp [*]; done)), (by first | rfl | (simp; done) | (simp [*]; done)), H', ⟨Nat.le_refl _⟩, ⟨Kit.bl⟩⟩
    case round =>
      clear H'
      try clear c1
      try clear p2
      try clear c3
      try clear c3b0
      obtain ⟨x1_1, x5_1, rfl, rfl, HA, HK1, HB⟩ := hrel
      cases gk with
      | zero => exact absurd HA.out (by simp [laws_szSlotS.l0])
      | succ k1 =>
        have H := HA.out
        clear HA
        simp only [laws_szSlotS.l0] at H
        by_cases c4 : x5_1 < (l0.length : Int)
        · rw [if_pos c4] at H
          have c4b0 : decide (x5_1 < (l0.length : Int)) = true := decide_eq_true c4
          clear c4
          by_cases c5 : 0 ≤ x5_1
          · rw [if_pos c5] at H
            have c5b0 : decide (0 ≤ x5_1) = true := decide_eq_true c5
            clear c5
            replace H := Option.bind_eq_some_iff.mp H
            obtain ⟨t112, A60, H⟩ := H
            replace H : (if t112 < 0 then (some (-1)) else (laws_szSlotS.l0 k1 l0 t112 (wrap64 (x5_1 + 1)))) = some r := H
            have A6 := Aside0.mk A60
            clear A60
            by_cases c7 : t112 < 0
            · rw [if_pos c7] at H
              have c7b0 : decide (t112 < 0) = true := decide_eq_true c7
              clear c7
              obtain rfl := Option.some.inj H
              have p111 : 0 ≤ (x5_1 : Int) := of_decide_eq_true Kit.asm
              have q111 : x5_1 < (l0.length : Int) := of_decide_eq_true Kit.asm
              obtain ⟨ad111, A111_1, c111_1, A111_3, c111_3, e111, hx111_0, hx111_1, hx111_2, hx111_3, hx111_4, hx111_5, hx111_6, hx111_7, hl111_1, hi111_1, hl111_3, hi111_3⟩ := at_T159 HR0.out x5_1 p111 q111
              cases e111
              replace hx111_0 := Kit.hx HB.out hx111_0
              replace hx111_1 := Kit.hx HB.out hx111_1
              replace hx111_2 := Kit.hx HB.out hx111_2
              replace hx111_3 := Kit.hx HB.out hx111_3
              replace hx111_4 := Kit.hx HB.out hx111_4
              replace hx111_5 := Kit.hx HB.out hx111_5
              replace hx111_6 := Kit.hx HB.out hx111_6
              replace hx111_7 := Kit.hx HB.out hx111_7
              have HR111_1 := Aside0.mk hi111_1
              have HC111_1 := Aside0.mk hl111_1
              clear hi111_1 hl111_1
              have HR111_3 := Aside0.mk hi111_3
              have HC111_3 := Aside0.mk hl111_3
              clear hi111_3 hl111_3
              replace p111 := eq_true p111
              replace q111 := eq_true q111
              go_wp2_with (first | ((with_reducible refine Kit.gate_callee (f := 120) rfl ?_); refine goesL_ (some 23) rfl rfl Try.func120 (by kernel_rfl) rfl #[.agg #[.string ((rd_T159 l0 x5_1).f0.f0), .slice A111_1 ((rd_T159 l0 x5_1).f0.f1).length c111_1, .int .i64 ((rd_T159 l0 x5_1).f0.f2.f0), .slice A111_3 ((rd_T159 l0 x5_1).f0.f2.f1).length c111_3, .string ((rd_T159 l0 x5_1).f0.f2.f2), .int .i64 ((rd_T159 l0 x5_1).f0.f3), .int .i64 ((rd_T159 l0 x5_1).f0.f4), .bool ((rd_T159 l0 x5_1).f1)], .int .i64 x1_1] rfl Kit.am ?_; (with_reducible refine (laws_szSlot.calls k1 ((rd_T159 l0 x5_1).f0.f0) _ _ ((rd_T159 l0 x5_1).f0.f1) ((rd_T159 l0 x5_1).f0.f2.f0) _ _ ((rd_T159 l0 x5_1).f0.f2.f1) ((rd_T159 l0 x5_1).f0.f2.f2) ((rd_T159 l0 x5_1).f0.f3) ((rd_T159 l0 x5_1).f0.f4) ((rd_T159 l0 x5_1).f1) x1_1 t112 _ ?side1 ?side2 ?side3 ?side4 A6.out).mono ?_); (case side1 => exact Kit.cr HR111_1.out HB.out); (case side2 => exact HC111_1.out); (case side3 => exact Kit.cr HR111_3.out HB.out); (case side4 => exact HC111_3.out); rintro e w8 ⟨rfl, hb⟩; refine ⟨_, rfl, ?_⟩; replace HB := Kit.hB hb; (try clear hb); (try clear hb2); (try clear hk); (try clear hi)))
              go_ret
              exact ⟨Kit.er, Kit.bl⟩
            · rw [if_neg c7] at H
              have c7b0 : decide (t112 < 0) = false := decide_eq_false c7
              clear c7
              have H' := Aside0.mk H
              clear H
              have p111 : 0 ≤ (x5_1 : Int) := of_decide_eq_true Kit.asm
              have q111 : x5_1 < (l0.length : Int) := of_decide_eq_true Kit.asm
              obtain ⟨ad111, A111_1, c111_1, A111_3, c111_3, e111, hx111_0, hx111_1, hx111_2, hx111_3, hx111_4, hx111_5, hx111_6, hx111_7, hl111_1, hi111_1, hl111_3, hi111_3⟩ := at_T159 HR0.out x5_1 p111 q111
              cases e111
              replace hx111_0 := Kit.hx HB.out hx111_0
              replace hx111_1 := Kit.hx HB.out hx111_1
              replace hx111_2 := Kit.hx HB.out hx111_2
              replace hx111_3 := Kit.hx HB.out hx111_3
              replace hx111_4 := Kit.hx HB.out hx111_4
              replace hx111_5 := Kit.hx HB.out hx111_5
              replace hx111_6 := Kit.hx HB.out hx111_6
              replace hx111_7 := Kit.hx HB.out hx111_7
              have HR111_1 := Aside0.mk hi111_1
              have HC111_1 := Aside0.mk hl111_1
              clear hi111_1 hl111_1
              have HR111_3 := Aside0.mk hi111_3
              have HC111_3 := Aside0.mk hl111_3
              clear hi111_3 hl111_3
              replace p111 := eq_true p111
              replace q111 := eq_true q111
              go_wp2_with (first | ((with_reducible refine Kit.gate_callee (f := 120) rfl ?_); refine goesL_ (some 23) rfl rfl Try.func120 (by kernel_rfl) rfl #[.agg #[.string ((rd_T159 l0 x5_1).f0.f0), .slice A111_1 ((rd_T159 l0 x5_1).f0.f1).length c111_1, .int .i64 ((rd_T159 l0 x5_1).f0.f2.f0), .slice A111_3 ((rd_T159 l0 x5_1).f0.f2.f1).length c111_3, .string ((rd_T159 l0 x5_1).f0.f2.f2), .int .i64 ((rd_T159 l0 x5_1).f0.f3), .int .i64 ((rd_T159 l0 x5_1).f0.f4), .bool ((rd_T159 l0 x5_1).f1)], .int .i64 x1_1] rfl Kit.am ?_; (with_reducible refine (laws_szSlot.calls k1 ((rd_T159 l0 x5_1).f0.f0) _ _ ((rd_T159 l0 x5_1).f0.f1) ((rd_T159 l0 x5_1).f0.f2.f0) _ _ ((rd_T159 l0 x5_1).f0.f2.f1) ((rd_T159 l0 x5_1).f0.f2.f2) ((rd_T159 l0 x5_1).f0.f3) ((rd_T159 l0 x5_1).f0.f4) ((rd_T159 l0 x5_1).f1) x1_1 t112 _ ?side1 ?side2 ?side3 ?side4 A6.out).mono ?_); (case side1 => exact Kit.cr HR111_1.out HB.out); (case side2 => exact HC111_1.out); (case side3 => exact Kit.cr HR111_3.out HB.out); (case side4 => exact HC111_3.out); rintro e w9 ⟨rfl, hb⟩; refine ⟨_, rfl, ?_⟩; replace HB := Kit.hB hb; (try clear hb); (try clear hb2); (try clear hk); (try clear hi)))
              go_roundg k1
              case measure => have := HK1.out; omega
              case rel => exact ⟨(t112), (wrap64 (x5_1 + 1)), (by first | rfl | (simp; done) | (simp [*]; done)), (by first | rfl | (simp; done) | (simp [*]; done)), H', ⟨by have := HK1.out; omega⟩, ⟨Kit.bl⟩⟩
          · rw [if_neg c5] at H
            exact absurd H (by simp)
        · rw [if_neg c4] at H
          have c4b0 : decide (x5_1 < (l0.length : Int)) = false := decide_eq_false c4
          clear c4
          obtain rfl := Option.some.inj H
          go_wp2
          go_ret
          exact ⟨Kit.er, Kit.bl⟩

/-! ### laws_szShard: function 92 -/
def laws_szShard.f (k : Nat) (a0_0 : Int) (a0_1 : Int) (l0_2 : List (S159)) (a0_3 : Int) (a1 : Int) : Option (Int) := (laws_szSlotS.f k l0_2 a1).bind fun t114 => (if t114 < 0 then (some (-1)) else (some t114))
theorem laws_szShard.mono : ∀ a0 a1 a2 a3 a4 k, LeO (laws_szShard.f k a0 a1 a2 a3 a4) (laws_szShard.f (k + 1) a0 a1 a2 a3 a4) := by
  intro a0 a1 a2 a3 a4 k
  unfold laws_szShard.f
  repeat' first
      | (with_reducible exact laws_szSlotS.mono _ _ _)
      | (with_reducible exact LeO.refl _)
      | (with_reducible exact LeO.none _)
      | (with_reducible refine LeO.ite ?_ ?_)
      | (with_reducible refine LeO.bind ?_ (fun _ => ?_))
      | exact laws_szSlotS.mono _ _ _
      | exact LeO.none _
      | refine LeO.ite ?_ ?_
      | refine LeO.bind ?_ (fun _ => ?_)
set_option maxHeartbeats 8000000 in
set_option maxRecDepth 100000 in
theorem laws_szShard.calls (k : Nat) (a0_0 : Int) (a0_1 : Int) (A0_2 : Option Addr) (c0_2 : Nat) (l0_2 : List (S159)) (a0_3 : Int) (a1 : Int) (r : Int) (w : World) (hr0_2 : Kd.C k159 w A0_2 l0_2.length l0_2) (hc0_2 : l0_2.length ≤ c0_2) (h : laws_szShard.f k a0_0 a0_1 l0_2 a0_3 a1 = some r) :
    Calls Try.prog 92 #[.agg #[.int .i64 a0_0, .int .i64 a0_1, .slice A0_2 l0_2.length c0_2, .int .i64 a0_3], .int .i64 a1] w fun e w' => e = .returned (.int .i64 r) ∧ Below w.heap.size w w' := by
  have hu120 := Try.underlying120
  have HR0_2 := Aside0.mk hr0_2
  have HC0_2 := Aside0.mk hc0_2
  clear hr0_2 hc0_2
  have HB := Aside0.mk (Below.refl w.heap.size w)
  have H : ((laws_szSlotS.f k l0_2 a1).bind fun t114 => (if t114 < 0 then (some (-1)) else (some t114))) = some r := h
  clear h
  replace H := Option.bind_eq_some_iff.mp H
  obtain ⟨t114, A30, H⟩ := H
  replace H : (if t114 < 0 then (some (-1)) else (some t114)) = some r := H
  have A3 := Aside0.mk A30
  clear A30
  by_cases c4 : t114 < 0
  · rw [if_pos c4] at H
    have c4b0 : decide (t114 < 0) = true := decide_eq_true c4
    clear c4
    obtain rfl := Option.some.inj H
    go_enter Try.func92, Try.ntmps92
    go_wp2_with (first | ((with_reducible refine gate_dst (N := 2) rfl ?_); refine box_event ?hg (N := 2) ?hd (cs := #[.int .i64 a0_0, .int .i64 a0_1, .slice A0_2 l0_2.length c0_2, .int .i64 a0_3]) (t := 120) ?hr ?_; (case hd => rfl); (case hg => rfl); (case hr => exact Kit.hr); intro gb113 hg w5 hbox hb; have BK113 := Aside0.mk (hbox); have GW113 := Kit.gX (w := w) hg; have GE113 := GW113; replace HB := Kit.hB hb; clear hb hbox hg; obtain ⟨hcz6_0, hcz6_1, hcz6_2, hcz6_3, hfz6_0, hfz6_1, hfz6_2, hfz6_3⟩ := Kit.c4 BK113.out) | ((with_reducible refine Kit.gate_callee (f := 109) rfl ?_); refine goesL_ (some 8) rfl rfl Try.func109 (by kernel_rfl) rfl #[.slice A0_2 l0_2.length c0_2, .int .i64 a1] rfl Kit.am ?_; (with_reducible refine (laws_szSlotS.calls k _ _ l0_2 a1 t114 _ ?side1 ?side2 A3.out).mono ?_); (case side1 => exact Kit.cr HR0_2.out HB.out); (case side2 => exact HC0_2.out); rintro e w7 ⟨rfl, hb⟩; refine ⟨_, rfl, ?_⟩; replace BK113 := Kit.bB BK113 hb; replace HB := Kit.hB hb; (try clear hb); (try clear hb2); (try clear hk); (try clear hi)))
    go_ret
    exact ⟨Kit.er, Kit.bl⟩
  · rw [if_neg c4] at H
    have c4b0 : decide (t114 < 0) = false := decide_eq_false c4
    clear c4
    obtain rfl := Option.some.inj H
    go_enter Try.func92, Try.ntmps92
    go_wp2_with (first | ((with_reducible refine gate_dst (N := 2) rfl ?_); refine box_event ?hg (N := 2) ?hd (cs := #[.int .i64 a0_0, .int .i64 a0_1, .slice A0_2 l0_2.length c0_2, .int .i64 a0_3]) (t := 120) ?hr ?_; (case hd => rfl); (case hg => rfl); (case hr => exact Kit.hr); intro gb113 hg w8 hbox hb; have BK113 := Aside0.mk (hbox); have GW113 := Kit.gX (w := w) hg; have GE113 := GW113; replace HB := Kit.hB hb; clear hb hbox hg; obtain ⟨hcz9_0, hcz9_1, hcz9_2, hcz9_3, hfz9_0, hfz9_1, hfz9_2, hfz9_3⟩ := Kit.c4 BK113.out) | ((with_reducible refine Kit.gate_callee (f := 109) rfl ?_); refine goesL_ (some 8) rfl rfl Try.func109 (by kernel_rfl) rfl #[.slice A0_2 l0_2.length c0_2, .int .i64 a1] rfl Kit.am ?_; (with_reducible refine (laws_szSlotS.calls k _ _ l0_2 a1 t114 _ ?side1 ?side2 A3.out).mono ?_); (case side1 => exact Kit.cr HR0_2.out HB.out); (case side2 => exact HC0_2.out); rintro e w10 ⟨rfl, hb⟩; refine ⟨_, rfl, ?_⟩; replace BK113 := Kit.bB BK113 hb; replace HB := Kit.hB hb; (try clear hb); (try clear hb2); (try clear hk); (try clear hi)))
    go_ret
    exact ⟨Kit.er, Kit.bl⟩

/-! ### laws_szShardS: function 61 -/
def laws_szShardS.l0 : Nat → List (S120) → Int → Int → Option (Int)
  | 0, _, _, _ => none
  | k + 1, x0, x1, x5 => if x5 < (x0.length : Int) then (if 0 ≤ x5 then ((laws_szShard.f k ((rd_T120 x0 x5).f0) ((rd_T120 x0 x5).f1) ((rd_T120 x0 x5).f2) ((rd_T120 x0 x5).f3) x1).bind fun t116 => (if t116 < 0 then (some (-1)) else (laws_szShardS.l0 k x0 t116 (wrap64 (x5 + 1))))) else (none)) else (some x1)
def laws_szShardS.f (k : Nat) (l0 : List (S120)) (a1 : Int) : Option (Int) := if (wrap64 (a1 - (l0.length : Int))) < 0 then (some (-1)) else (laws_szShardS.l0 k l0 (wrap64 (a1 - (l0.length : Int))) 0)
theorem laws_szShardS.mono_l : ∀ k, (∀ y0 y1 y2, LeO (laws_szShardS.l0 k y0 y1 y2) (laws_szShardS.l0 (k + 1) y0 y1 y2))
  | 0 => fun _ _ _ r h => by simp [laws_szShardS.l0] at h
  | k + 1 => by
    have ih0 := laws_szShardS.mono_l k
    · intro y0 y1 y2
      unfold laws_szShardS.l0
      repeat' first
      | (with_reducible exact ih0 _ _ _)
      | (with_reducible exact laws_szShard.mono _ _ _ _ _ _)
      | (with_reducible exact LeO.refl _)
      | (with_reducible exact LeO.none _)
      | (with_reducible refine LeO.ite ?_ ?_)
      | (with_reducible refine LeO.bind ?_ (fun _ => ?_))
      | exact ih0 _ _ _
      | exact laws_szShard.mono _ _ _ _ _ _
      | exact LeO.none _
      | refine LeO.ite ?_ ?_
      | refine LeO.bind ?_ (fun _ => ?_)
theorem laws_szShardS.mono : ∀ a0 a1 k, LeO (laws_szShardS.f k a0 a1) (laws_szShardS.f (k + 1) a0 a1) := by
  intro a0 a1 k
  have ih0 := laws_szShardS.mono_l k
  unfold laws_szShardS.f
  repeat' first
      | (with_reducible exact ih0 _ _ _)
      | (with_reducible exact laws_szShard.mono _ _ _ _ _ _)
      | (with_reducible exact LeO.refl _)
      | (with_reducible exact LeO.none _)
      | (with_reducible refine LeO.ite ?_ ?_)
      | (with_reducible refine LeO.bind ?_ (fun _ => ?_))
      | exact ih0 _ _ _
      | exact laws_szShard.mono _ _ _ _ _ _
      | exact LeO.none _
      | refine LeO.ite ?_ ?_
      | refine LeO.bind ?_ (fun _ => ?_)
set_option maxHeartbeats 8000000 in
set_option maxRecDepth 100000 in
theorem laws_szShardS.calls (k : Nat) (A0 : Option Addr) (c0 : Nat) (l0 : List (S120)) (a1 : Int) (r : Int) (w : World) (hr0 : Kd.C k120 w A0 l0.length l0) (hc0 : l0.length ≤ c0) (h : laws_szShardS.f k l0 a1 = some r) :
    Calls Try.prog 61 #[.slice A0 l0.length c0, .int .i64 a1] w fun e w' => e = .returned (.int .i64 r) ∧ Below w.heap.size w w' := by
  have hu120 := Try.underlying120
  have HR0 := Aside0.mk hr0
  have HC0 := Aside0.mk hc0
  clear hr0 hc0
  have HB := Aside0.mk (Below.refl w.heap.size w)
  have H : (if (wrap64 (a1 - (l0.length : Int))) < 0 then (some (-1)) else (laws_szShardS.l0 k l0 (wrap64 (a1 - (l0.length : Int))) 0)) = some r := h
  clear h
  by_cases c3 : (wrap64 (a1 - (l0.length : Int))) < 0
  · rw [if_pos c3] at H
    have c3b0 : decide ((wrap64 (a1 - (l0.length : Int))) < 0) = true := decide_eq_true c3
    clear c3
    obtain rfl := Option.some.inj H
    go_enter Try.func61, Try.ntmps61
    go_wp2
    go_ret
    exact ⟨Kit.er, Kit.bl⟩
  · rw [if_neg c3] at H
    have c3b0 : decide ((wrap64 (a1 - (l0.length : Int))) < 0) = false := decide_eq_false c3
    clear c3
    have H' := Aside0.mk H
    clear H
    go_enter Try.func61, Try.ntmps61
    go_wp2
    go_loopg [1, 5] k (fun kq v1 v5 w' => ∃ (x1_1 : Int) (x5_1 : Int), v1 = .int .i64 x1_1 ∧ v5 = .int .i64 x5_1 ∧ Aside0 (laws_szShardS.l0 kq l0 x1_1 x5_1 = some r) ∧ Aside0 (kq ≤ k) ∧ Aside0 (Below w.heap.size w w'))
    case atStart => exact ⟨(wrap64 (a1 - (l0.length : Int))), (0), (by first | rfl | (simp; done) | (simp [*]; done)), (by first | rfl | (simp; done) | (simp [*]; done)), H', ⟨Nat.le_refl _⟩, ⟨Kit.bl⟩⟩
    case round =>
      clear H'
      try clear p2
      try clear c3
      try clear c3b0
      obtain ⟨x1_1, x5_1, rfl, rfl, HA, HK1, HB⟩ := hrel
      cases gk with
      | zero => exact absurd HA.out (by simp [laws_szShardS.l0])
      | succ k1 =>
        have H := HA.out
        clear HA
        simp only [laws_szShardS.l0] at H
        by_cases c4 : x5_1 < (l0.length : Int)
        · rw [if_pos c4] at H
          have c4b0 : decide (x5_1 < (l0.length : Int)) = true := decide_eq_true c4
          clear c4
          by_cases c5 : 0 ≤ x5_1
          · rw [if_pos c5] at H
            have c5b0 : decide (0 ≤ x5_1) = true := decide_eq_true c5
            clear c5
            replace H := Option.bind_eq_some_iff.mp H
            obtain ⟨t116, A60, H⟩ := H
            replace H : (if t116 < 0 then (some (-1)) else (laws_szShardS.l0 k1 l0 t116 (wrap64 (x5_1 + 1)))) = some r := H
            have A6 := Aside0.mk A60
            clear A60
            by_cases c7 : t116 < 0
            · rw [if_pos c7] at H
              have c7b0 : decide (t116 < 0) = true := decide_eq_true c7
              clear c7
              obtain rfl := Option.some.inj H
              have p115 : 0 ≤ (x5_1 : Int) := of_decide_eq_true Kit.asm
              have q115 : x5_1 < (l0.length : Int) := of_decide_eq_true Kit.asm
              obtain ⟨ad115, A115_2, c115_2, e115, hx115_0, hx115_1, hx115_2, hx115_3, hl115_2, hi115_2⟩ := at_T120 HR0.out x5_1 p115 q115
              cases e115
              replace hx115_0 := Kit.hx HB.out hx115_0
              replace hx115_1 := Kit.hx HB.out hx115_1
              replace hx115_2 := Kit.hx HB.out hx115_2
              replace hx115_3 := Kit.hx HB.out hx115_3
              have HR115_2 := Aside0.mk hi115_2
              have HC115_2 := Aside0.mk hl115_2
              clear hi115_2 hl115_2
              replace p115 := eq_true p115
              replace q115 := eq_true q115
              go_wp2_with (first | ((with_reducible refine Kit.gate_callee (f := 92) rfl ?_); refine goesL_ (some 23) rfl rfl Try.func92 (by kernel_rfl) rfl #[.agg #[.int .i64 ((rd_T120 l0 x5_1).f0), .int .i64 ((rd_T120 l0 x5_1).f1), .slice A115_2 ((rd_T120 l0 x5_1).f2).length c115_2, .int .i64 ((rd_T120 l0 x5_1).f3)], .int .i64 x1_1] rfl Kit.am ?_; (with_reducible refine (laws_szShard.calls k1 ((rd_T120 l0 x5_1).f0) ((rd_T120 l0 x5_1).f1) _ _ ((rd_T120 l0 x5_1).f2) ((rd_T120 l0 x5_1).f3) x1_1 t116 _ ?side1 ?side2 A6.out).mono ?_); (case side1 => exact Kit.cr HR115_2.out HB.out); (case side2 => exact HC115_2.out); rintro e w8 ⟨rfl, hb⟩; refine ⟨_, rfl, ?_⟩; replace HB := Kit.hB hb; (try clear hb); (try clear hb2); (try clear hk); (try clear hi)))
              go_ret
              exact ⟨Kit.er, Kit.bl⟩
            · rw [if_neg c7] at H
              have c7b0 : decide (t116 < 0) = false := decide_eq_false c7
              clear c7
              have H' := Aside0.mk H
              clear H
              have p115 : 0 ≤ (x5_1 : Int) := of_decide_eq_true Kit.asm
              have q115 : x5_1 < (l0.length : Int) := of_decide_eq_true Kit.asm
              obtain ⟨ad115, A115_2, c115_2, e115, hx115_0, hx115_1, hx115_2, hx115_3, hl115_2, hi115_2⟩ := at_T120 HR0.out x5_1 p115 q115
              cases e115
              replace hx115_0 := Kit.hx HB.out hx115_0
              replace hx115_1 := Kit.hx HB.out hx115_1
              replace hx115_2 := Kit.hx HB.out hx115_2
              replace hx115_3 := Kit.hx HB.out hx115_3
              have HR115_2 := Aside0.mk hi115_2
              have HC115_2 := Aside0.mk hl115_2
              clear hi115_2 hl115_2
              replace p115 := eq_true p115
              replace q115 := eq_true q115
              go_wp2_with (first | ((with_reducible refine Kit.gate_callee (f := 92) rfl ?_); refine goesL_ (some 23) rfl rfl Try.func92 (by kernel_rfl) rfl #[.agg #[.int .i64 ((rd_T120 l0 x5_1).f0), .int .i64 ((rd_T120 l0 x5_1).f1), .slice A115_2 ((rd_T120 l0 x5_1).f2).length c115_2, .int .i64 ((rd_T120 l0 x5_1).f3)], .int .i64 x1_1] rfl Kit.am ?_; (with_reducible refine (laws_szShard.calls k1 ((rd_T120 l0 x5_1).f0) ((rd_T120 l0 x5_1).f1) _ _ ((rd_T120 l0 x5_1).f2) ((rd_T120 l0 x5_1).f3) x1_1 t116 _ ?side1 ?side2 A6.out).mono ?_); (case side1 => exact Kit.cr HR115_2.out HB.out); (case side2 => exact HC115_2.out); rintro e w9 ⟨rfl, hb⟩; refine ⟨_, rfl, ?_⟩; replace HB := Kit.hB hb; (try clear hb); (try clear hb2); (try clear hk); (try clear hi)))
              go_roundg k1
              case measure => have := HK1.out; omega
              case rel => exact ⟨(t116), (wrap64 (x5_1 + 1)), (by first | rfl | (simp; done) | (simp [*]; done)), (by first | rfl | (simp; done) | (simp [*]; done)), H', ⟨by have := HK1.out; omega⟩, ⟨Kit.bl⟩⟩
          · rw [if_neg c5] at H
            exact absurd H (by simp)
        · rw [if_neg c4] at H
          have c4b0 : decide (x5_1 < (l0.length : Int)) = false := decide_eq_false c4
          clear c4
          obtain rfl := Option.some.inj H
          go_wp2
          go_ret
          exact ⟨Kit.er, Kit.bl⟩

/-! ### laws_szGenRow: function 93 -/
def laws_szGenRow.f (a0_0 : ByteArray) (a0_1 : Int) (a1 : Int) : Option (Int) := if (wrap64 (a1 - (a0_0.size : Int))) < 0 then (some (-1)) else (some (wrap64 (a1 - (a0_0.size : Int))))
set_option maxHeartbeats 8000000 in
set_option maxRecDepth 100000 in
theorem laws_szGenRow.calls (a0_0 : ByteArray) (a0_1 : Int) (a1 : Int) (r : Int) (w : World) (h : laws_szGenRow.f a0_0 a0_1 a1 = some r) :
    Calls Try.prog 93 #[.agg #[.string a0_0, .int .i64 a0_1], .int .i64 a1] w fun e w' => e = .returned (.int .i64 r) ∧ Below w.heap.size w w' := by
  have hu122 := Try.underlying122
  have HB := Aside0.mk (Below.refl w.heap.size w)
  have H : (if (wrap64 (a1 - (a0_0.size : Int))) < 0 then (some (-1)) else (some (wrap64 (a1 - (a0_0.size : Int))))) = some r := h
  clear h
  by_cases c3 : (wrap64 (a1 - (a0_0.size : Int))) < 0
  · rw [if_pos c3] at H
    have c3b0 : decide ((wrap64 (a1 - (a0_0.size : Int))) < 0) = true := decide_eq_true c3
    clear c3
    obtain rfl := Option.some.inj H
    go_enter Try.func93, Try.ntmps93
    go_wp2_with (first | ((with_reducible refine gate_dst (N := 2) rfl ?_); refine box_event ?hg (N := 2) ?hd (cs := #[.string a0_0, .int .i64 a0_1]) (t := 122) ?hr ?_; (case hd => rfl); (case hg => rfl); (case hr => exact Kit.hr); intro gb117 hg w4 hbox hb; have BK117 := Aside0.mk (hbox); have GW117 := Kit.gX (w := w) hg; have GE117 := GW117; replace HB := Kit.hB hb; clear hb hbox hg; obtain ⟨hcz5_0, hcz5_1, hfz5_0, hfz5_1⟩ := Kit.c2 BK117.out))
    go_ret
    exact ⟨Kit.er, Kit.bl⟩
  · rw [if_neg c3] at H
    have c3b0 : decide ((wrap64 (a1 - (a0_0.size : Int))) < 0) = false := decide_eq_false c3
    clear c3
    obtain rfl := Option.some.inj H
    go_enter Try.func93, Try.ntmps93
    go_wp2_with (first | ((with_reducible refine gate_dst (N := 2) rfl ?_); refine box_event ?hg (N := 2) ?hd (cs := #[.string a0_0, .int .i64 a0_1]) (t := 122) ?hr ?_; (case hd => rfl); (case hg => rfl); (case hr => exact Kit.hr); intro gb117 hg w6 hbox hb; have BK117 := Aside0.mk (hbox); have GW117 := Kit.gX (w := w) hg; have GE117 := GW117; replace HB := Kit.hB hb; clear hb hbox hg; obtain ⟨hcz7_0, hcz7_1, hfz7_0, hfz7_1⟩ := Kit.c2 BK117.out))
    go_ret
    exact ⟨Kit.er, Kit.bl⟩

/-! ### laws_szGenRowS: function 62 -/
def laws_szGenRowS.l0 : Nat → List (S122) → Int → Int → Option (Int)
  | 0, _, _, _ => none
  | k + 1, x0, x1, x5 => if x5 < (x0.length : Int) then (if 0 ≤ x5 then ((laws_szGenRow.f ((rd_T122 x0 x5).f0) ((rd_T122 x0 x5).f1) x1).bind fun t119 => (if t119 < 0 then (some (-1)) else (laws_szGenRowS.l0 k x0 t119 (wrap64 (x5 + 1))))) else (none)) else (some x1)
def laws_szGenRowS.f (k : Nat) (l0 : List (S122)) (a1 : Int) : Option (Int) := if (wrap64 (a1 - (l0.length : Int))) < 0 then (some (-1)) else (laws_szGenRowS.l0 k l0 (wrap64 (a1 - (l0.length : Int))) 0)
theorem laws_szGenRowS.mono_l : ∀ k, (∀ y0 y1 y2, LeO (laws_szGenRowS.l0 k y0 y1 y2) (laws_szGenRowS.l0 (k + 1) y0 y1 y2))
  | 0 => fun _ _ _ r h => by simp [laws_szGenRowS.l0] at h
  | k + 1 => by
    have ih0 := laws_szGenRowS.mono_l k
    · intro y0 y1 y2
      unfold laws_szGenRowS.l0
      repeat' first
      | (with_reducible exact ih0 _ _ _)
      | (with_reducible exact LeO.refl _)
      | (with_reducible exact LeO.none _)
      | (with_reducible refine LeO.ite ?_ ?_)
      | (with_reducible refine LeO.bind ?_ (fun _ => ?_))
      | exact ih0 _ _ _
      | exact LeO.none _
      | refine LeO.ite ?_ ?_
      | refine LeO.bind ?_ (fun _ => ?_)
theorem laws_szGenRowS.mono : ∀ a0 a1 k, LeO (laws_szGenRowS.f k a0 a1) (laws_szGenRowS.f (k + 1) a0 a1) := by
  intro a0 a1 k
  have ih0 := laws_szGenRowS.mono_l k
  unfold laws_szGenRowS.f
  repeat' first
      | (with_reducible exact ih0 _ _ _)
      | (with_reducible exact LeO.refl _)
      | (with_reducible exact LeO.none _)
      | (with_reducible refine LeO.ite ?_ ?_)
      | (with_reducible refine LeO.bind ?_ (fun _ => ?_))
      | exact ih0 _ _ _
      | exact LeO.none _
      | refine LeO.ite ?_ ?_
      | refine LeO.bind ?_ (fun _ => ?_)
set_option maxHeartbeats 8000000 in
set_option maxRecDepth 100000 in
theorem laws_szGenRowS.calls (k : Nat) (A0 : Option Addr) (c0 : Nat) (l0 : List (S122)) (a1 : Int) (r : Int) (w : World) (hr0 : Kd.C k122 w A0 l0.length l0) (hc0 : l0.length ≤ c0) (h : laws_szGenRowS.f k l0 a1 = some r) :
    Calls Try.prog 62 #[.slice A0 l0.length c0, .int .i64 a1] w fun e w' => e = .returned (.int .i64 r) ∧ Below w.heap.size w w' := by
  have hu122 := Try.underlying122
  have HR0 := Aside0.mk hr0
  have HC0 := Aside0.mk hc0
  clear hr0 hc0
  have HB := Aside0.mk (Below.refl w.heap.size w)
  have H : (if (wrap64 (a1 - (l0.length : Int))) < 0 then (some (-1)) else (laws_szGenRowS.l0 k l0 (wrap64 (a1 - (l0.length : Int))) 0)) = some r := h
  clear h
  by_cases c3 : (wrap64 (a1 - (l0.length : Int))) < 0
  · rw [if_pos c3] at H
    have c3b0 : decide ((wrap64 (a1 - (l0.length : Int))) < 0) = true := decide_eq_true c3
    clear c3
    obtain rfl := Option.some.inj H
    go_enter Try.func62, Try.ntmps62
    go_wp2
    go_ret
    exact ⟨Kit.er, Kit.bl⟩
  · rw [if_neg c3] at H
    have c3b0 : decide ((wrap64 (a1 - (l0.length : Int))) < 0) = false := decide_eq_false c3
    clear c3
    have H' := Aside0.mk H
    clear H
    go_enter Try.func62, Try.ntmps62
    go_wp2
    go_loopg [1, 5] k (fun kq v1 v5 w' => ∃ (x1_1 : Int) (x5_1 : Int), v1 = .int .i64 x1_1 ∧ v5 = .int .i64 x5_1 ∧ Aside0 (laws_szGenRowS.l0 kq l0 x1_1 x5_1 = some r) ∧ Aside0 (kq ≤ k) ∧ Aside0 (Below w.heap.size w w'))
    case atStart => exact ⟨(wrap64 (a1 - (l0.length : Int))), (0), (by first | rfl | (simp; done) | (simp [*]; done)), (by first | rfl | (simp; done) | (simp [*]; done)), H', ⟨Nat.le_refl _⟩, ⟨Kit.bl⟩⟩
    case round =>
      clear H'
      try clear p2
      try clear c3
      try clear c3b0
      obtain ⟨x1_1, x5_1, rfl, rfl, HA, HK1, HB⟩ := hrel
      cases gk with
      | zero => exact absurd HA.out (by simp [laws_szGenRowS.l0])
      | succ k1 =>
        have H := HA.out
        clear HA
        simp only [laws_szGenRowS.l0] at H
        by_cases c4 : x5_1 < (l0.length : Int)
        · rw [if_pos c4] at H
          have c4b0 : decide (x5_1 < (l0.length : Int)) = true := decide_eq_true c4
          clear c4
          by_cases c5 : 0 ≤ x5_1
          · rw [if_pos c5] at H
            have c5b0 : decide (0 ≤ x5_1) = true := decide_eq_true c5
            clear c5
            replace H := Option.bind_eq_some_iff.mp H
            obtain ⟨t119, A60, H⟩ := H
            replace H : (if t119 < 0 then (some (-1)) else (laws_szGenRowS.l0 k1 l0 t119 (wrap64 (x5_1 + 1)))) = some r := H
            have A6 := Aside0.mk A60
            clear A60
            by_cases c7 : t119 < 0
            · rw [if_pos c7] at H
              have c7b0 : decide (t119 < 0) = true := decide_eq_true c7
              clear c7
              obtain rfl := Option.some.inj H
              have p118 : 0 ≤ (x5_1 : Int) := of_decide_eq_true Kit.asm
              have q118 : x5_1 < (l0.length : Int) := of_decide_eq_true Kit.asm
              obtain ⟨ad118, e118, hx118_0, hx118_1⟩ := at_T122 HR0.out x5_1 p118 q118
              cases e118
              replace hx118_0 := Kit.hx HB.out hx118_0
              replace hx118_1 := Kit.hx HB.out hx118_1
              replace p118 := eq_true p118
              replace q118 := eq_true q118
              go_wp2_with (first | ((with_reducible refine Kit.gate_callee (f := 93) rfl ?_); refine goesL_ (some 23) rfl rfl Try.func93 (by kernel_rfl) rfl #[.agg #[.string ((rd_T122 l0 x5_1).f0), .int .i64 ((rd_T122 l0 x5_1).f1)], .int .i64 x1_1] rfl Kit.am ?_; (with_reducible refine (laws_szGenRow.calls ((rd_T122 l0 x5_1).f0) ((rd_T122 l0 x5_1).f1) x1_1 t119 _ A6.out).mono ?_); rintro e w8 ⟨rfl, hb⟩; refine ⟨_, rfl, ?_⟩; replace HB := Kit.hB hb; (try clear hb); (try clear hb2); (try clear hk); (try clear hi)))
              go_ret
              exact ⟨Kit.er, Kit.bl⟩
            · rw [if_neg c7] at H
              have c7b0 : decide (t119 < 0) = false := decide_eq_false c7
              clear c7
              have H' := Aside0.mk H
              clear H
              have p118 : 0 ≤ (x5_1 : Int) := of_decide_eq_true Kit.asm
              have q118 : x5_1 < (l0.length : Int) := of_decide_eq_true Kit.asm
              obtain ⟨ad118, e118, hx118_0, hx118_1⟩ := at_T122 HR0.out x5_1 p118 q118
              cases e118
              replace hx118_0 := Kit.hx HB.out hx118_0
              replace hx118_1 := Kit.hx HB.out hx118_1
              replace p118 := eq_true p118
              replace q118 := eq_true q118
              go_wp2_with (first | ((with_reducible refine Kit.gate_callee (f := 93) rfl ?_); refine goesL_ (some 23) rfl rfl Try.func93 (by kernel_rfl) rfl #[.agg #[.string ((rd_T122 l0 x5_1).f0), .int .i64 ((rd_T122 l0 x5_1).f1)], .int .i64 x1_1] rfl Kit.am ?_; (with_reducible refine (laws_szGenRow.calls ((rd_T122 l0 x5_1).f0) ((rd_T122 l0 x5_1).f1) x1_1 t119 _ A6.out).mono ?_); rintro e w9 ⟨rfl, hb⟩; refine ⟨_, rfl, ?_⟩; replace HB := Kit.hB hb; (try clear hb); (try clear hb2); (try clear hk); (try clear hi)))
              go_roundg k1
              case measure => have := HK1.out; omega
              case rel => exact ⟨(t119), (wrap64 (x5_1 + 1)), (by first | rfl | (simp; done) | (simp [*]; done)), (by first | rfl | (simp; done) | (simp [*]; done)), H', ⟨by have := HK1.out; omega⟩, ⟨Kit.bl⟩⟩
          · rw [if_neg c5] at H
            exact absurd H (by simp)
        · rw [if_neg c4] at H
          have c4b0 : decide (x5_1 < (l0.length : Int)) = false := decide_eq_false c4
          clear c4
          obtain rfl := Option.some.inj H
          go_wp2
          go_ret
          exact ⟨Kit.er, Kit.bl⟩

end Go.Proofs.Ythbmemimpakljaa.QFnExactSameCache
