-- Written by own.py, a program of this session's own, which calls the kit's print. Lean checks it.
import Derived.Test.YthbmemimpakljaaQFnExactSameCachex0
import Derived.Test.YthbmemimpakljaaQFnExactSameCachex1
namespace Go.Proofs.Ythbmemimpakljaa.QFnExactSameCache
open Go.RowKit Go.Proofs.YthbmemimpakljaaW.PrintWords Go.Proofs.YthbmemimpakljaaW.PrintLast
attribute [local go_sem] Kit.run_store_one   -- for this text's walks alone
set_option linter.unusedVariables false
set_option linter.unusedSimpArgs false

attribute [local go_sem high] eqA76
/-! ### impl_Field: function 129 -/
def impl_Field.l0 : Nat → List (S76) → List (S76) → Int → Int → Option (Bool)
  | 0, _, _, _, _ => none
  | k + 1, x0, x1, x12, x13 => if x13 < x12 then (if 0 ≤ x13 then (if x13 < (x0.length : Int) then (if x13 < (x1.length : Int) then (if (!((((rd_T76 x0 x13).f0).toList) == (((rd_T76 x1 x13).f0).toList)) || (!((((rd_T76 x0 x13).f1).toList) == (((rd_T76 x1 x13).f1).toList)))) = true then (some false) else (impl_Field.l0 k x0 x1 x12 (wrap64 (x13 + 1)))) else (none)) else (none)) else (none)) else (some true)
def impl_Field.f (k : Nat) (l0 : List (S76)) (l1 : List (S76)) : Option (Bool) := if (l0.length : Int) = (l1.length : Int) then (impl_Field.l0 k l0 l1 (l0.length : Int) 0) else (some false)
theorem impl_Field.mono_l : ∀ k, (∀ y0 y1 y2 y3, LeO (impl_Field.l0 k y0 y1 y2 y3) (impl_Field.l0 (k + 1) y0 y1 y2 y3))
  | 0 => fun _ _ _ _ r h => by simp [impl_Field.l0] at h
  | k + 1 => by
    have ih0 := impl_Field.mono_l k
    · intro y0 y1 y2 y3
      unfold impl_Field.l0
      repeat' first
      | (with_reducible exact ih0 _ _ _ _)
      | (with_reducible exact LeO.refl _)
      | (with_reducible exact LeO.none _)
      | (with_reducible refine LeO.ite ?_ ?_)
      | (with_reducible refine LeO.bind ?_ (fun _ => ?_))
      | exact ih0 _ _ _ _
      | exact LeO.none _
      | refine LeO.ite ?_ ?_
      | refine LeO.bind ?_ (fun _ => ?_)
theorem impl_Field.mono : ∀ a0 a1 k, LeO (impl_Field.f k a0 a1) (impl_Field.f (k + 1) a0 a1) := by
  intro a0 a1 k
  have ih0 := impl_Field.mono_l k
  unfold impl_Field.f
  repeat' first
      | (with_reducible exact ih0 _ _ _ _)
      | (with_reducible exact LeO.refl _)
      | (with_reducible exact LeO.none _)
      | (with_reducible refine LeO.ite ?_ ?_)
      | (with_reducible refine LeO.bind ?_ (fun _ => ?_))
      | exact ih0 _ _ _ _
      | exact LeO.none _
      | refine LeO.ite ?_ ?_
      | refine LeO.bind ?_ (fun _ => ?_)
set_option maxHeartbeats 8000000 in
set_option maxRecDepth 100000 in
theorem impl_Field.calls (k : Nat) (A0 : Option Addr) (c0 : Nat) (l0 : List (S76)) (A1 : Option Addr) (c1 : Nat) (l1 : List (S76)) (r : Bool) (w : World) (hr0 : Kd.C k76 w A0 l0.length l0) (hc0 : l0.length ≤ c0) (hr1 : Kd.C k76 w A1 l1.length l1) (hc1 : l1.length ≤ c1) (h : impl_Field.f k l0 l1 = some r) :
    Calls Try.prog 129 #[.slice A0 l0.length c0, .slice A1 l1.length c1] w fun e w' => e = .returned (.bool r) ∧ Drawn0 w w' := by
  have hu76 := Try.underlying76
  have HR0 := Aside0.mk hr0
  have HC0 := Aside0.mk hc0
  clear hr0 hc0
  have HR1 := Aside0.mk hr1
  have HC1 := Aside0.mk hc1
  clear hr1 hc1
  have H : (if (l0.length : Int) = (l1.length : Int) then (impl_Field.l0 k l0 l1 (l0.length : Int) 0) else (some false)) = some r := h
  clear h
  by_cases c3 : (l0.length : Int) = (l1.length : Int)
  · rw [if_pos c3] at H
    have c3b0 : ((l0.length : Int) == (l1.length : Int)) = true := beq_iff_eq.mpr c3
    have c3b1 : ((l0.length : Int) != (l1.length : Int)) = false := bne_eq_false_iff_eq.mpr c3
    have c3b2 : (l0.length == l1.length) = true := by first | simpa using c3 | (simp at c3 ⊢; omega)
    clear c3
    have H' := Aside0.mk H
    clear H
    go_enter Try.func129, Try.ntmps129
    go_wp2
    repeat (go_quiet (fail); try go_wp2)
    go_loopg [13] k (fun kq v13 w' => ∃ (x13_1 : Int), v13 = .int .i64 x13_1 ∧ Aside0 (impl_Field.l0 kq l0 l1 (l0.length : Int) x13_1 = some r) ∧ Aside0 (kq ≤ k) ∧ Drawn0 w w')
    case atStart => exact ⟨(0), (by first | rfl | (simp; done) | (simp [*]; done)), H', ⟨Nat.le_refl _⟩, by repeat (first | exact Drawn0.refl _ | apply Drawn0.step)⟩
    case round =>
      clear H'
      try clear c1
      try clear p2
      try clear c3
      try clear c3b0
      try clear c3b1
      try clear c3b2
      obtain ⟨x13_1, rfl, HA, HK1, ⟨m1, rfl⟩⟩ := hrel
      cases gk with
      | zero => exact absurd HA.out (by simp [impl_Field.l0])
      | succ k1 =>
        have H := HA.out
        clear HA
        simp only [impl_Field.l0] at H
        by_cases c4 : x13_1 < (l0.length : Int)
        · rw [if_pos c4] at H
          have c4b0 : decide (x13_1 < (l0.length : Int)) = true := decide_eq_true c4
          clear c4
          by_cases c5 : 0 ≤ x13_1
          · rw [if_pos c5] at H
            have c5b0 : decide (0 ≤ x13_1) = true := decide_eq_true c5
            clear c5
            by_cases c6 : x13_1 < (l0.length : Int)
            · rw [if_pos c6] at H
              have c6b0 : decide (x13_1 < (l0.length : Int)) = true := decide_eq_true c6
              clear c6
              by_cases c7 : x13_1 < (l1.length : Int)
              · rw [if_pos c7] at H
                have c7b0 : decide (x13_1 < (l1.length : Int)) = true := decide_eq_true c7
                clear c7
                by_cases c8 : (!((((rd_T76 l0 x13_1).f0).toList) == (((rd_T76 l1 x13_1).f0).toList)) || (!((((rd_T76 l0 x13_1).f1).toList) == (((rd_T76 l1 x13_1).f1).toList)))) = true
                · rw [if_pos c8] at H
                  have c8b0 : (!((((rd_T76 l0 x13_1).f0).toList) == (((rd_T76 l1 x13_1).f0).toList)) || (!((((rd_T76 l0 x13_1).f1).toList) == (((rd_T76 l1 x13_1).f1).toList)))) = true := c8
                  clear c8
                  obtain rfl := Option.some.inj H
                  have p276 : 0 ≤ (x13_1 : Int) := of_decide_eq_true Kit.asm
                  have q276 : x13_1 < (l0.length : Int) := of_decide_eq_true Kit.asm
                  obtain ⟨ad276, e276, hx276_0, hx276_1⟩ := at_T76 HR0.out x13_1 p276 q276
                  cases e276
                  replace p276 := eq_true p276
                  replace q276 := eq_true q276
                  have p277 : 0 ≤ (x13_1 : Int) := of_decide_eq_true Kit.asm
                  have q277 : x13_1 < (l1.length : Int) := of_decide_eq_true Kit.asm
                  obtain ⟨ad277, e277, hx277_0, hx277_1⟩ := at_T76 HR1.out x13_1 p277 q277
                  cases e277
                  replace p277 := eq_true p277
                  replace q277 := eq_true q277
                  go_wp2
                  repeat (go_quiet (fail); try go_wp2)
                  go_ret
                  exact ⟨by first | rfl | (simp; done) | (simp [*]; done), by repeat (first | exact Drawn0.refl _ | apply Drawn0.step)⟩
                · rw [if_neg c8] at H
                  have c8b0 : (!((((rd_T76 l0 x13_1).f0).toList) == (((rd_T76 l1 x13_1).f0).toList)) || (!((((rd_T76 l0 x13_1).f1).toList) == (((rd_T76 l1 x13_1).f1).toList)))) = false := by simpa using c8
                  clear c8
                  have H' := Aside0.mk H
                  clear H
                  have p276 : 0 ≤ (x13_1 : Int) := of_decide_eq_true Kit.asm
                  have q276 : x13_1 < (l0.length : Int) := of_decide_eq_true Kit.asm
                  obtain ⟨ad276, e276, hx276_0, hx276_1⟩ := at_T76 HR0.out x13_1 p276 q276
                  cases e276
                  replace p276 := eq_true p276
                  replace q276 := eq_true q276
                  have p277 : 0 ≤ (x13_1 : Int) := of_decide_eq_true Kit.asm
                  have q277 : x13_1 < (l1.length : Int) := of_decide_eq_true Kit.asm
                  obtain ⟨ad277, e277, hx277_0, hx277_1⟩ := at_T76 HR1.out x13_1 p277 q277
                  cases e277
                  replace p277 := eq_true p277
                  replace q277 := eq_true q277
                  go_wp2
                  repeat (go_quiet (fail); try go_wp2)
                  go_roundg k1
                  case measure => have := HK1.out; omega
                  case rel => exact ⟨(wrap64 (x13_1 + 1)), (by first | rfl | (simp; done) | (simp [*]; done)), H', ⟨by have := HK1.out; omega⟩, by repeat (first | exact Drawn0.refl _ | apply Drawn0.step)⟩
              · rw [if_neg c7] at H
                exact absurd H (by simp)
            · rw [if_neg c6] at H
              exact absurd H (by simp)
          · rw [if_neg c5] at H
            exact absurd H (by simp)
        · rw [if_neg c4] at H
          have c4b0 : decide (x13_1 < (l0.length : Int)) = false := decide_eq_false c4
          clear c4
          obtain rfl := Option.some.inj H
          go_wp2
          repeat (go_quiet (fail); try go_wp2)
          go_ret
          exact ⟨by first | rfl | (simp; done) | (simp [*]; done), by repeat (first | exact Drawn0.refl _ | apply Drawn0.step)⟩
  · rw [if_neg c3] at H
    have c3b0 : ((l0.length : Int) == (l1.length : Int)) = false := beq_eq_false_iff_ne.mpr c3
    have c3b1 : ((l0.length : Int) != (l1.length : Int)) = true := bne_iff_ne.mpr c3
    have c3b2 : (l0.length == l1.length) = false := by first | simpa using c3 | (simp at c3 ⊢; omega)
    obtain rfl := Option.some.inj H
    go_enter Try.func129, Try.ntmps129
    go_wp2
    repeat (go_quiet (fail); try go_wp2)
    go_ret
    exact ⟨by first | rfl | (simp; done) | (simp [*]; done), by repeat (first | exact Drawn0.refl _ | apply Drawn0.step)⟩

/-! ### impl_SameFields: function 124 -/
def impl_SameFields.f (k : Nat) (l0 : List (S76)) (l1 : List (S76)) : Option (Bool) := (impl_Field.f k l0 l1).bind fun t278 => (some t278)
theorem impl_SameFields.mono : ∀ a0 a1 k, LeO (impl_SameFields.f k a0 a1) (impl_SameFields.f (k + 1) a0 a1) := by
  intro a0 a1 k
  unfold impl_SameFields.f
  repeat' first
      | (with_reducible exact impl_Field.mono _ _ _)
      | (with_reducible exact LeO.refl _)
      | (with_reducible exact LeO.none _)
      | (with_reducible refine LeO.ite ?_ ?_)
      | (with_reducible refine LeO.bind ?_ (fun _ => ?_))
      | exact impl_Field.mono _ _ _
      | exact LeO.none _
      | refine LeO.ite ?_ ?_
      | refine LeO.bind ?_ (fun _ => ?_)
set_option maxHeartbeats 8000000 in
set_option maxRecDepth 100000 in
theorem impl_SameFields.calls (k : Nat) (A0 : Option Addr) (c0 : Nat) (l0 : List (S76)) (A1 : Option Addr) (c1 : Nat) (l1 : List (S76)) (r : Bool) (w : World) (hr0 : Kd.C k76 w A0 l0.length l0) (hc0 : l0.length ≤ c0) (hr1 : Kd.C k76 w A1 l1.length l1) (hc1 : l1.length ≤ c1) (h : impl_SameFields.f k l0 l1 = some r) :
    Calls Try.prog 124 #[.slice A0 l0.length c0, .slice A1 l1.length c1] w fun e w' => e = .returned (.bool r) ∧ Drawn0 w w' := by
  have HR0 := Aside0.mk hr0
  have HC0 := Aside0.mk hc0
  clear hr0 hc0
  have HR1 := Aside0.mk hr1
  have HC1 := Aside0.mk hc1
  clear hr1 hc1
  have H : ((impl_Field.f k l0 l1).bind fun t278 => (some t278)) = some r := h
  clear h
  replace H := Option.bind_eq_some_iff.mp H
  obtain ⟨t278, A30, H⟩ := H
  replace H : (some t278) = some r := H
  have A3 := Aside0.mk A30
  clear A30
  obtain rfl := Option.some.inj H
  go_enter Try.func124, Try.ntmps124
  go_wp2_with (first | ((with_reducible refine Kit.gate_callee (f := 129) rfl ?_); refine goesL_ (some 7) rfl rfl Try.func129 (by kernel_rfl) rfl #[.slice A0 l0.length c0, .slice A1 l1.length c1] rfl Kit.am ?_; (with_reducible refine (impl_Field.calls k _ _ l0 _ _ l1 t278 _ ?side1 ?side2 ?side3 ?side4 A3.out).mono ?_); (case side1 => exact Kit.cx (HR0.out)); (case side2 => exact HC0.out); (case side3 => exact Kit.cx (HR1.out)); (case side4 => exact HC1.out); rintro e w' ⟨rfl, ⟨nd, rfl⟩⟩; refine ⟨_, rfl, ?_⟩))
  go_ret
  exact ⟨by first | rfl | (simp; done) | (simp [*]; done), by repeat (first | exact Drawn0.refl _ | apply Drawn0.step)⟩

/-! ### impl_standAlike: function 116 -/
def impl_standAlike.f (k : Nat) (a0_0 : ByteArray) (l0_1 : List (S76)) (a0_2 : Int) (l0_3 : List (S76)) (a0_4 : ByteArray) (a0_5 : Int) (a0_6 : Int) (a1_0 : ByteArray) (l1_1 : List (S76)) (a1_2 : Int) (l1_3 : List (S76)) (a1_4 : ByteArray) (a1_5 : Int) (a1_6 : Int) : Option (Bool) := if a0_0.toList = a1_0.toList then ((impl_SameFields.f k l0_1 l1_1).bind fun t281 => (some t281)) else (some false)
theorem impl_standAlike.mono : ∀ a0 a1 a2 a3 a4 a5 a6 a7 a8 a9 a10 a11 a12 a13 k, LeO (impl_standAlike.f k a0 a1 a2 a3 a4 a5 a6 a7 a8 a9 a10 a11 a12 a13) (impl_standAlike.f (k + 1) a0 a1 a2 a3 a4 a5 a6 a7 a8 a9 a10 a11 a12 a13) := by
  intro a0 a1 a2 a3 a4 a5 a6 a7 a8 a9 a10 a11 a12 a13 k
  unfold impl_standAlike.f
  repeat' first
      | (with_reducible exact impl_SameFields.mono _ _ _)
      | (with_reducible exact LeO.refl _)
      | (with_reducible exact LeO.none _)
      | (with_reducible refine LeO.ite ?_ ?_)
      | (with_reducible refine LeO.bind ?_ (fun _ => ?_))
      | exact impl_SameFields.mono _ _ _
      | exact LeO.none _
      | refine LeO.ite ?_ ?_
      | refine LeO.bind ?_ (fun _ => ?_)
set_option maxHeartbeats 8000000 in
set_option maxRecDepth 100000 in
theorem impl_standAlike.calls (k : Nat) (a0_0 : ByteArray) (A0_1 : Option Addr) (c0_1 : Nat) (l0_1 : List (S76)) (a0_2 : Int) (A0_3 : Option Addr) (c0_3 : Nat) (l0_3 : List (S76)) (a0_4 : ByteArray) (a0_5 : Int) (a0_6 : Int) (a1_0 : ByteArray) (A1_1 : Option Addr) (c1_1 : Nat) (l1_1 : List (S76)) (a1_2 : Int) (A1_3 : Option Addr) (c1_3 : Nat) (l1_3 : List (S76)) (a1_4 : ByteArray) (a1_5 : Int) (a1_6 : Int) (r : Bool) (w : World) (hr0_1 : Kd.C k76 w A0_1 l0_1.length l0_1) (hc0_1 : l0_1.length ≤ c0_1) (hr0_3 : Kd.C k76 w A0_3 l0_3.length l0_3) (hc0_3 : l0_3.length ≤ c0_3) (hr1_1 : Kd.C k76 w A1_1 l1_1.length l1_1) (hc1_1 : l1_1.length ≤ c1_1) (hr1_3 : Kd.C k76 w A1_3 l1_3.length l1_3) (hc1_3 : l1_3.length ≤ c1_3) (h : impl_standAlike.f k a0_0 l0_1 a0_2 l0_3 a0_4 a0_5 a0_6 a1_0 l1_1 a1_2 l1_3 a1_4 a1_5 a1_6 = some r) :
    Calls Try.prog 116 #[.agg #[.string a0_0, .slice A0_1 l0_1.length c0_1, .int .i64 a0_2, .slice A0_3 l0_3.length c0_3, .string a0_4, .int .i64 a0_5, .int .i64 a0_6], .agg #[.string a1_0, .slice A1_1 l1_1.length c1_1, .int .i64 a1_2, .slice A1_3 l1_3.length c1_3, .string a1_4, .int .i64 a1_5, .int .i64 a1_6]] w fun e w' => e = .returned (.bool r) ∧ Below w.heap.size w w' := by
  have hu28 := Try.underlying28
  have HR0_1 := Aside0.mk hr0_1
  have HC0_1 := Aside0.mk hc0_1
  clear hr0_1 hc0_1
  have HR0_3 := Aside0.mk hr0_3
  have HC0_3 := Aside0.mk hc0_3
  clear hr0_3 hc0_3
  have HR1_1 := Aside0.mk hr1_1
  have HC1_1 := Aside0.mk hc1_1
  clear hr1_1 hc1_1
  have HR1_3 := Aside0.mk hr1_3
  have HC1_3 := Aside0.mk hc1_3
  clear hr1_3 hc1_3
  have HB := Aside0.mk (Below.refl w.heap.size w)
  have H : (if a0_0.toList = a1_0.toList then ((impl_SameFields.f k l0_1 l1_1).bind fun t281 => (some t281)) else (some false)) = some r := h
  clear h
  by_cases c3 : a0_0.toList = a1_0.toList
  · rw [if_pos c3] at H
    have c3b0 : (a0_0.toList == a1_0.toList) = true := beq_iff_eq.mpr c3
    have c3b1 : (a0_0.toList != a1_0.toList) = false := bne_eq_false_iff_eq.mpr c3
    clear c3
    replace H := Option.bind_eq_some_iff.mp H
    obtain ⟨t281, A40, H⟩ := H
    replace H : (some t281) = some r := H
    have A4 := Aside0.mk A40
    clear A40
    obtain rfl := Option.some.inj H
    go_enter Try.func116, Try.ntmps116
    go_wp2_with (first | ((with_reducible refine gate_dst (N := 2) rfl ?_); refine box_event ?hg (N := 2) ?hd (cs := #[.string a0_0, .slice A0_1 l0_1.length c0_1, .int .i64 a0_2, .slice A0_3 l0_3.length c0_3, .string a0_4, .int .i64 a0_5, .int .i64 a0_6]) (t := 28) ?hr ?_; (case hd => rfl); (case hg => rfl); (case hr => exact Kit.hr); intro gb279 hg w5 hbox hb; have BK279 := Aside0.mk (hbox); have GW279 := Kit.gX (w := w) hg; have GE279 := GW279; replace HB := Kit.hB hb; clear hb hbox hg) | ((with_reducible refine gate_dst (N := 3) rfl ?_); refine box_event ?hg (N := 3) ?hd (cs := #[.string a1_0, .slice A1_1 l1_1.length c1_1, .int .i64 a1_2, .slice A1_3 l1_3.length c1_3, .string a1_4, .int .i64 a1_5, .int .i64 a1_6]) (t := 28) ?hr ?_; (case hd => rfl); (case hg => rfl); (case hr => exact Kit.hr); intro gb280 hg w6 hbox hb; have BK280 := Aside0.mk (hbox); have GW280 := Kit.gX (w := w) hg; have GE280 := GW280; replace HB := Kit.hB hb; have NB279_280 := Aside0.mk (Kit.nlt hg BK279.out); have NB280_279 := Aside0.mk (Kit.ngt hg BK279.out); replace BK279 := Kit.bB BK279 hb; clear hb hbox hg; have hnb7 := NB279_280.out; have hnc7 := NB280_279.out; obtain ⟨hcz8_0, hcz8_1, hcz8_2, hcz8_3, hcz8_4, hcz8_5, hcz8_6, hfz8_0, hfz8_1, hfz8_2, hfz8_3, hfz8_4, hfz8_5, hfz8_6⟩ := Kit.c7 BK279.out; obtain ⟨hcz9_0, hcz9_1, hcz9_2, hcz9_3, hcz9_4, hcz9_5, hcz9_6, hfz9_0, hfz9_1, hfz9_2, hfz9_3, hfz9_4, hfz9_5, hfz9_6⟩ := Kit.c7 BK280.out) | (go_at_call 124; (with_reducible refine (impl_SameFields.calls k _ _ l0_1 _ _ l1_1 t281 _ ?side1 ?side2 ?side3 ?side4 A4.out).mono ?_); (case side1 => exact Kit.cr HR0_1.out HB.out); (case side2 => exact HC0_1.out); (case side3 => exact Kit.cr HR1_1.out HB.out); (case side4 => exact HC1_1.out); rintro e w' ⟨rfl, ⟨nd, rfl⟩⟩))
    go_ret
    exact ⟨Kit.er, Kit.bl⟩
  · rw [if_neg c3] at H
    have c3b0 : (a0_0.toList == a1_0.toList) = false := beq_eq_false_iff_ne.mpr c3
    have c3b1 : (a0_0.toList != a1_0.toList) = true := bne_iff_ne.mpr c3
    obtain rfl := Option.some.inj H
    go_enter Try.func116, Try.ntmps116
    go_wp2_with (first | ((with_reducible refine gate_dst (N := 2) rfl ?_); refine box_event ?hg (N := 2) ?hd (cs := #[.string a0_0, .slice A0_1 l0_1.length c0_1, .int .i64 a0_2, .slice A0_3 l0_3.length c0_3, .string a0_4, .int .i64 a0_5, .int .i64 a0_6]) (t := 28) ?hr ?_; (case hd => rfl); (case hg => rfl); (case hr => exact Kit.hr); intro gb279 hg w10 hbox hb; have BK279 := Aside0.mk (hbox); have GW279 := Kit.gX (w := w) hg; have GE279 := GW279; replace HB := Kit.hB hb; clear hb hbox hg) | ((with_reducible refine gate_dst (N := 3) rfl ?_); refine box_event ?hg (N := 3) ?hd (cs := #[.string a1_0, .slice A1_1 l1_1.length c1_1, .int .i64 a1_2, .slice A1_3 l1_3.length c1_3, .string a1_4, .int .i64 a1_5, .int .i64 a1_6]) (t := 28) ?hr ?_; (case hd => rfl); (case hg => rfl); (case hr => exact Kit.hr); intro gb280 hg w11 hbox hb; have BK280 := Aside0.mk (hbox); have GW280 := Kit.gX (w := w) hg; have GE280 := GW280; replace HB := Kit.hB hb; have NB279_280 := Aside0.mk (Kit.nlt hg BK279.out); have NB280_279 := Aside0.mk (Kit.ngt hg BK279.out); replace BK279 := Kit.bB BK279 hb; clear hb hbox hg; have hnb12 := NB279_280.out; have hnc12 := NB280_279.out; obtain ⟨hcz13_0, hcz13_1, hcz13_2, hcz13_3, hcz13_4, hcz13_5, hcz13_6, hfz13_0, hfz13_1, hfz13_2, hfz13_3, hfz13_4, hfz13_5, hfz13_6⟩ := Kit.c7 BK279.out; obtain ⟨hcz14_0, hcz14_1, hcz14_2, hcz14_3, hcz14_4, hcz14_5, hcz14_6, hfz14_0, hfz14_1, hfz14_2, hfz14_3, hfz14_4, hfz14_5, hfz14_6⟩ := Kit.c7 BK280.out))
    go_ret
    exact ⟨Kit.er, Kit.bl⟩

/-! ### impl_SameResponse: function 117 -/
def impl_SameResponse.f (k : Nat) (a0_0 : Int) (l0_1 : List (S76)) (a0_2 : ByteArray) (a1_0 : Int) (l1_1 : List (S76)) (a1_2 : ByteArray) : Option (Bool) := if a0_0 = a1_0 then ((impl_SameFields.f k l0_1 l1_1).bind fun t284 => (if t284 = true then (some (a0_2.toList == a1_2.toList)) else (some false))) else (some false)
theorem impl_SameResponse.mono : ∀ a0 a1 a2 a3 a4 a5 k, LeO (impl_SameResponse.f k a0 a1 a2 a3 a4 a5) (impl_SameResponse.f (k + 1) a0 a1 a2 a3 a4 a5) := by
  intro a0 a1 a2 a3 a4 a5 k
  unfold impl_SameResponse.f
  repeat' first
      | (with_reducible exact impl_SameFields.mono _ _ _)
      | (with_reducible exact LeO.refl _)
      | (with_reducible exact LeO.none _)
      | (with_reducible refine LeO.ite ?_ ?_)
      | (with_reducible refine LeO.bind ?_ (fun _ => ?_))
      | exact impl_SameFields.mono _ _ _
      | exact LeO.none _
      | refine LeO.ite ?_ ?_
      | refine LeO.bind ?_ (fun _ => ?_)
set_option maxHeartbeats 8000000 in
set_option maxRecDepth 100000 in
theorem impl_SameResponse.calls (k : Nat) (a0_0 : Int) (A0_1 : Option Addr) (c0_1 : Nat) (l0_1 : List (S76)) (a0_2 : ByteArray) (a1_0 : Int) (A1_1 : Option Addr) (c1_1 : Nat) (l1_1 : List (S76)) (a1_2 : ByteArray) (r : Bool) (w : World) (hr0_1 : Kd.C k76 w A0_1 l0_1.length l0_1) (hc0_1 : l0_1.length ≤ c0_1) (hr1_1 : Kd.C k76 w A1_1 l1_1.length l1_1) (hc1_1 : l1_1.length ≤ c1_1) (h : impl_SameResponse.f k a0_0 l0_1 a0_2 a1_0 l1_1 a1_2 = some r) :
    Calls Try.prog 117 #[.agg #[.int .i64 a0_0, .slice A0_1 l0_1.length c0_1, .string a0_2], .agg #[.int .i64 a1_0, .slice A1_1 l1_1.length c1_1, .string a1_2]] w fun e w' => e = .returned (.bool r) ∧ Below w.heap.size w w' := by
  have hu26 := Try.underlying26
  have HR0_1 := Aside0.mk hr0_1
  have HC0_1 := Aside0.mk hc0_1
  clear hr0_1 hc0_1
  have HR1_1 := Aside0.mk hr1_1
  have HC1_1 := Aside0.mk hc1_1
  clear hr1_1 hc1_1
  have HB := Aside0.mk (Below.refl w.heap.size w)
  have H : (if a0_0 = a1_0 then ((impl_SameFields.f k l0_1 l1_1).bind fun t284 => (if t284 = true then (some (a0_2.toList == a1_2.toList)) else (some false))) else (some false)) = some r := h
  clear h
  by_cases c3 : a0_0 = a1_0
  · rw [if_pos c3] at H
    have c3b0 : (a0_0 == a1_0) = true := beq_iff_eq.mpr c3
    have c3b1 : (a0_0 != a1_0) = false := bne_eq_false_iff_eq.mpr c3
    clear c3
    replace H := Option.bind_eq_some_iff.mp H
    obtain ⟨t284, A40, H⟩ := H
    replace H : (if t284 = true then (some (a0_2.toList == a1_2.toList)) else (some false)) = some r := H
    have A4 := Aside0.mk A40
    clear A40
    by_cases c5 : t284 = true
    · subst c5
      have H1 : (some (a0_2.toList == a1_2.toList)) = some r := by rw [if_pos rfl] at H; exact H
      clear H
      have H := H1
      clear H1
      obtain rfl := Option.some.inj H
      go_enter Try.func117, Try.ntmps117
      go_wp2_with (first | ((with_reducible refine gate_dst (N := 2) rfl ?_); refine box_event ?hg (N := 2) ?hd (cs := #[.int .i64 a0_0, .slice A0_1 l0_1.length c0_1, .string a0_2]) (t := 26) ?hr ?_; (case hd => rfl); (case hg => rfl); (case hr => exact Kit.hr); intro gb282 hg w6 hbox hb; have BK282 := Aside0.mk (hbox); have GW282 := Kit.gX (w := w) hg; have GE282 := GW282; replace HB := Kit.hB hb; clear hb hbox hg) | ((with_reducible refine gate_dst (N := 3) rfl ?_); refine box_event ?hg (N := 3) ?hd (cs := #[.int .i64 a1_0, .slice A1_1 l1_1.length c1_1, .string a1_2]) (t := 26) ?hr ?_; (case hd => rfl); (case hg => rfl); (case hr => exact Kit.hr); intro gb283 hg w7 hbox hb; have BK283 := Aside0.mk (hbox); have GW283 := Kit.gX (w := w) hg; have GE283 := GW283; replace HB := Kit.hB hb; have NB282_283 := Aside0.mk (Kit.nlt hg BK282.out); have NB283_282 := Aside0.mk (Kit.ngt hg BK282.out); replace BK282 := Kit.bB BK282 hb; clear hb hbox hg; have hnb8 := NB282_283.out; have hnc8 := NB283_282.out; obtain ⟨hcz9_0, hcz9_1, hcz9_2, hfz9_0, hfz9_1, hfz9_2⟩ := Kit.c3 BK282.out; obtain ⟨hcz10_0, hcz10_1, hcz10_2, hfz10_0, hfz10_1, hfz10_2⟩ := Kit.c3 BK283.out) | (go_at_call 124; (with_reducible refine (impl_SameFields.calls k _ _ l0_1 _ _ l1_1 true _ ?side1 ?side2 ?side3 ?side4 A4.out).mono ?_); (case side1 => exact Kit.cr HR0_1.out HB.out); (case side2 => exact HC0_1.out); (case side3 => exact Kit.cr HR1_1.out HB.out); (case side4 => exact HC1_1.out); rintro e w' ⟨rfl, ⟨nd, rfl⟩⟩))
      go_ret
      exact ⟨Kit.er, Kit.bl⟩
    · replace c5 := Bool.eq_false_iff.mpr c5
      subst c5
      have H1 : (some false) = some r := by rw [if_neg (show ¬ (false = true) by decide)] at H; exact H
      clear H
      have H := H1
      clear H1
      obtain rfl := Option.some.inj H
      go_enter Try.func117, Try.ntmps117
      go_wp2_with (first | ((with_reducible refine gate_dst (N := 2) rfl ?_); refine box_event ?hg (N := 2) ?hd (cs := #[.int .i64 a0_0, .slice A0_1 l0_1.length c0_1, .string a0_2]) (t := 26) ?hr ?_; (case hd => rfl); (case hg => rfl); (case hr => exact Kit.hr); intro gb282 hg w11 hbox hb; have BK282 := Aside0.mk (hbox); have GW282 := Kit.gX (w := w) hg; have GE282 := GW282; replace HB := Kit.hB hb; clear hb hbox hg) | ((with_reducible refine gate_dst (N := 3) rfl ?_); refine box_event ?hg (N := 3) ?hd (cs := #[.int .i64 a1_0, .slice A1_1 l1_1.length c1_1, .string a1_2]) (t := 26) ?hr ?_; (case hd => rfl); (case hg => rfl); (case hr => exact Kit.hr); intro gb283 hg w12 hbox hb; have BK283 := Aside0.mk (hbox); have GW283 := Kit.gX (w := w) hg; have GE283 := GW283; replace HB := Kit.hB hb; have NB282_283 := Aside0.mk (Kit.nlt hg BK282.out); have NB283_282 := Aside0.mk (Kit.ngt hg BK282.out); replace BK282 := Kit.bB BK282 hb; clear hb hbox hg; have hnb13 := NB282_283.out; have hnc13 := NB283_282.out; obtain ⟨hcz14_0, hcz14_1, hcz14_2, hfz14_0, hfz14_1, hfz14_2⟩ := Kit.c3 BK282.out; obtain ⟨hcz15_0, hcz15_1, hcz15_2, hfz15_0, hfz15_1, hfz15_2⟩ := Kit.c3 BK283.out) | (go_at_call 124; (with_reducible refine (impl_SameFields.calls k _ _ l0_1 _ _ l1_1 false _ ?side1 ?side2 ?side3 ?side4 A4.out).mono ?_); (case side1 => exact Kit.cr HR0_1.out HB.out); (case side2 => exact HC0_1.out); (case side3 => exact Kit.cr HR1_1.out HB.out); (case side4 => exact HC1_1.out); rintro e w' ⟨rfl, ⟨nd, rfl⟩⟩))
      go_ret
      exact ⟨Kit.er, Kit.bl⟩
  · rw [if_neg c3] at H
    have c3b0 : (a0_0 == a1_0) = false := beq_eq_false_iff_ne.mpr c3
    have c3b1 : (a0_0 != a1_0) = true := bne_iff_ne.mpr c3
    obtain rfl := Option.some.inj H
    go_enter Try.func117, Try.ntmps117
    go_wp2_with (first | ((with_reducible refine gate_dst (N := 2) rfl ?_); refine box_event ?hg (N := 2) ?hd (cs := #[.int .i64 a0_0, .slice A0_1 l0_1.length c0_1, .string a0_2]) (t := 26) ?hr ?_; (case hd => rfl); (case hg => rfl); (case hr => exact Kit.hr); intro gb282 hg w16 hbox hb; have BK282 := Aside0.mk (hbox); have GW282 := Kit.gX (w := w) hg; have GE282 := GW282; replace HB := Kit.hB hb; clear hb hbox hg) | ((with_reducible refine gate_dst (N := 3) rfl ?_); refine box_event ?hg (N := 3) ?hd (cs := #[.int .i64 a1_0, .slice A1_1 l1_1.length c1_1, .string a1_2]) (t := 26) ?hr ?_; (case hd => rfl); (case hg => rfl); (case hr => exact Kit.hr); intro gb283 hg w17 hbox hb; have BK283 := Aside0.mk (hbox); have GW283 := Kit.gX (w := w) hg; have GE283 := GW283; replace HB := Kit.hB hb; have NB282_283 := Aside0.mk (Kit.nlt hg BK282.out); have NB283_282 := Aside0.mk (Kit.ngt hg BK282.out); replace BK282 := Kit.bB BK282 hb; clear hb hbox hg; have hnb18 := NB282_283.out; have hnc18 := NB283_282.out; obtain ⟨hcz19_0, hcz19_1, hcz19_2, hfz19_0, hfz19_1, hfz19_2⟩ := Kit.c3 BK282.out; obtain ⟨hcz20_0, hcz20_1, hcz20_2, hfz20_0, hfz20_1, hfz20_2⟩ := Kit.c3 BK283.out))
    go_ret
    exact ⟨Kit.er, Kit.bl⟩

/-! ### impl_sameStored: function 104 -/
def impl_sameStored.f (k : Nat) (a0_0 : ByteArray) (l0_1 : List (S76)) (a0_2 : Int) (l0_3 : List (S76)) (a0_4 : ByteArray) (a0_5 : Int) (a0_6 : Int) (a1_0 : ByteArray) (l1_1 : List (S76)) (a1_2 : Int) (l1_3 : List (S76)) (a1_4 : ByteArray) (a1_5 : Int) (a1_6 : Int) : Option (Bool) := (impl_standAlike.f k a0_0 l0_1 a0_2 l0_3 a0_4 a0_5 a0_6 a1_0 l1_1 a1_2 l1_3 a1_4 a1_5 a1_6).bind fun t287 => (if t287 = true then ((impl_SameResponse.f k a0_2 l0_3 a0_4 a1_2 l1_3 a1_4).bind fun t288 => (if t288 = true then (if a0_5 = a1_5 then (some (a0_6 == a1_6)) else (some false)) else (some false))) else (some false))
theorem impl_sameStored.mono : ∀ a0 a1 a2 a3 a4 a5 a6 a7 a8 a9 a10 a11 a12 a13 k, LeO (impl_sameStored.f k a0 a1 a2 a3 a4 a5 a6 a7 a8 a9 a10 a11 a12 a13) (impl_sameStored.f (k + 1) a0 a1 a2 a3 a4 a5 a6 a7 a8 a9 a10 a11 a12 a13) := by
  intro a0 a1 a2 a3 a4 a5 a6 a7 a8 a9 a10 a11 a12 a13 k
  unfold impl_sameStored.f
  repeat' first
      | (with_reducible exact impl_SameResponse.mono _ _ _ _ _ _ _)
      | (with_reducible exact impl_standAlike.mono _ _ _ _ _ _ _ _ _ _ _ _ _ _ _)
      | (with_reducible exact LeO.refl _)
      | (with_reducible exact LeO.none _)
      | (with_reducible refine LeO.ite ?_ ?_)
      | (with_reducible refine LeO.bind ?_ (fun _ => ?_))
      | exact impl_SameResponse.mono _ _ _ _ _ _ _
      | exact impl_standAlike.mono _ _ _ _ _ _ _ _ _ _ _ _ _ _ _
      | exact LeO.none _
      | refine LeO.ite ?_ ?_
      | refine LeO.bind ?_ (fun _ => ?_)
set_option maxHeartbeats 8000000 in
set_option maxRecDepth 100000 in
theorem impl_sameStored.calls (k : Nat) (a0_0 : ByteArray) (A0_1 : Option Addr) (c0_1 : Nat) (l0_1 : List (S76)) (a0_2 : Int) (A0_3 : Option Addr) (c0_3 : Nat) (l0_3 : List (S76)) (a0_4 : ByteArray) (a0_5 : Int) (a0_6 : Int) (a1_0 : ByteArray) (A1_1 : Option Addr) (c1_1 : Nat) (l1_1 : List (S76)) (a1_2 : Int) (A1_3 : Option Addr) (c1_3 : Nat) (l1_3 : List (S76)) (a1_4 : ByteArray) (a1_5 : Int) (a1_6 : Int) (r : Bool) (w : World) (hr0_1 : Kd.C k76 w A0_1 l0_1.length l0_1) (hc0_1 : l0_1.length ≤ c0_1) (hr0_3 : Kd.C k76 w A0_3 l0_3.length l0_3) (hc0_3 : l0_3.length ≤ c0_3) (hr1_1 : Kd.C k76 w A1_1 l1_1.length l1_1) (hc1_1 : l1_1.length ≤ c1_1) (hr1_3 : Kd.C k76 w A1_3 l1_3.length l1_3) (hc1_3 : l1_3.length ≤ c1_3) (h : impl_sameStored.f k a0_0 l0_1 a0_2 l0_3 a0_4 a0_5 a0_6 a1_0 l1_1 a1_2 l1_3 a1_4 a1_5 a1_6 = some r) :
    Calls Try.prog 104 #[.agg #[.string a0_0, .slice A0_1 l0_1.length c0_1, .int .i64 a0_2, .slice A0_3 l0_3.length c0_3, .string a0_4, .int .i64 a0_5, .int .i64 a0_6], .agg #[.string a1_0, .slice A1_1 l1_1.length c1_1, .int .i64 a1_2, .slice A1_3 l1_3.length c1_3, .string a1_4, .int .i64 a1_5, .int .i64 a1_6]] w fun e w' => e = .returned (.bool r) ∧ Below w.heap.size w w' := by
  have hu28 := Try.underlying28
  have hu26 := Try.underlying26
  have HR0_1 := Aside0.mk hr0_1
  have HC0_1 := Aside0.mk hc0_1
  clear hr0_1 hc0_1
  have HR0_3 := Aside0.mk hr0_3
  have HC0_3 := Aside0.mk hc0_3
  clear hr0_3 hc0_3
  have HR1_1 := Aside0.mk hr1_1
  have HC1_1 := Aside0.mk hc1_1
  clear hr1_1 hc1_1
  have HR1_3 := Aside0.mk hr1_3
  have HC1_3 := Aside0.mk hc1_3
  clear hr1_3 hc1_3
  have HB := Aside0.mk (Below.refl w.heap.size w)
  have H : ((impl_standAlike.f k a0_0 l0_1 a0_2 l0_3 a0_4 a0_5 a0_6 a1_0 l1_1 a1_2 l1_3 a1_4 a1_5 a1_6).bind fun t287 => (if t287 = true then ((impl_SameResponse.f k a0_2 l0_3 a0_4 a1_2 l1_3 a1_4).bind fun t288 => (if t288 = true then (if a0_5 = a1_5 then (some (a0_6 == a1_6)) else (some false)) else (some false))) else (some false))) = some r := h
  clear h
  replace H := Option.bind_eq_some_iff.mp H
  obtain ⟨t287, A30, H⟩ := H
  replace H : (if t287 = true then ((impl_SameResponse.f k a0_2 l0_3 a0_4 a1_2 l1_3 a1_4).bind fun t288 => (if t288 = true then (if a0_5 = a1_5 then (some (a0_6 == a1_6)) else (some false)) else (some false))) else (some false)) = some r := H
  have A3 := Aside0.mk A30
  clear A30
  by_cases c4 : t287 = true
  · subst c4
    have H1 : ((impl_SameResponse.f k a0_2 l0_3 a0_4 a1_2 l1_3 a1_4).bind fun t288 => (if t288 = true then (if a0_5 = a1_5 then (some (a0_6 == a1_6)) else (some false)) else (some false))) = some r := by rw [if_pos rfl] at H; exact H
    clear H
    have H := H1
    clear H1
    replace H := Option.bind_eq_some_iff.mp H
    obtain ⟨t288, A50, H⟩ := H
    replace H : (if t288 = true then (if a0_5 = a1_5 then (some (a0_6 == a1_6)) else (some false)) else (some false)) = some r := H
    have A5 := Aside0.mk A50
    clear A50
    by_cases c6 : t288 = true
    · subst c6
      have H1 : (if a0_5 = a1_5 then (some (a0_6 == a1_6)) else (some false)) = some r := by rw [if_pos rfl] at H; exact H
      clear H
      have H := H1
      clear H1
      by_cases c7 : a0_5 = a1_5
      · rw [if_pos c7] at H
        have c7b0 : (a0_5 == a1_5) = true := beq_iff_eq.mpr c7
        have c7b1 : (a0_5 != a1_5) = false := bne_eq_false_iff_eq.mpr c7
        clear c7
        obtain rfl := Option.some.inj H
        go_enter Try.func104, Try.ntmps104
        go_wp2_with (first | ((with_reducible refine gate_dst (N := 2) rfl ?_); refine box_event ?hg (N := 2) ?hd (cs := #[.string a0_0, .slice A0_1 l0_1.length c0_1, .int .i64 a0_2, .slice A0_3 l0_3.length c0_3, .string a0_4, .int .i64 a0_5, .int .i64 a0_6]) (t := 28) ?hr ?_; (case hd => rfl); (case hg => rfl); (case hr => exact Kit.hr); intro gb285 hg w8 hbox hb; have BK285 := Aside0.mk (hbox); have GW285 := Kit.gX (w := w) hg; have GE285 := GW285; replace HB := Kit.hB hb; clear hb hbox hg) | ((with_reducible refine gate_dst (N := 3) rfl ?_); refine box_event ?hg (N := 3) ?hd (cs := #[.string a1_0, .slice A1_1 l1_1.length c1_1, .int .i64 a1_2, .slice A1_3 l1_3.length c1_3, .string a1_4, .int .i64 a1_5, .int .i64 a1_6]) (t := 28) ?hr ?_; (case hd => rfl); (case hg => rfl); (case hr => exact Kit.hr); intro gb286 hg w9 hbox hb; have BK286 := Aside0.mk (hbox); have GW286 := Kit.gX (w := w) hg; have GE286 := GW286; replace HB := Kit.hB hb; have NB285_286 := Aside0.mk (Kit.nlt hg BK285.out); have NB286_285 := Aside0.mk (Kit.ngt hg BK285.out); replace BK285 := Kit.bB BK285 hb; clear hb hbox hg; have hnb10 := NB285_286.out; have hnc10 := NB286_285.out; obtain ⟨hcz11_0, hcz11_1, hcz11_2, hcz11_3, hcz11_4, hcz11_5, hcz11_6, hfz11_0, hfz11_1, hfz11_2, hfz11_3, hfz11_4, hfz11_5, hfz11_6⟩ := Kit.c7 BK285.out; obtain ⟨hcz12_0, hcz12_1, hcz12_2, hcz12_3, hcz12_4, hcz12_5, hcz12_6, hfz12_0, hfz12_1, hfz12_2, hfz12_3, hfz12_4, hfz12_5, hfz12_6⟩ := Kit.c7 BK286.out) | ((with_reducible refine Kit.gate_callee (f := 116) rfl ?_); refine goesL_ (some 7) rfl rfl Try.func116 (by kernel_rfl) rfl #[.agg #[.string a0_0, .slice A0_1 l0_1.length c0_1, .int .i64 a0_2, .slice A0_3 l0_3.length c0_3, .string a0_4, .int .i64 a0_5, .int .i64 a0_6], .agg #[.string a1_0, .slice A1_1 l1_1.length c1_1, .int .i64 a1_2, .slice A1_3 l1_3.length c1_3, .string a1_4, .int .i64 a1_5, .int .i64 a1_6]] rfl Kit.am ?_; (with_reducible refine (impl_standAlike.calls k a0_0 _ _ l0_1 a0_2 _ _ l0_3 a0_4 a0_5 a0_6 a1_0 _ _ l1_1 a1_2 _ _ l1_3 a1_4 a1_5 a1_6 true _ ?side1 ?side2 ?side3 ?side4 ?side5 ?side6 ?side7 ?side8 A3.out).mono ?_); (case side1 => exact Kit.cr HR0_1.out HB.out); (case side2 => exact HC0_1.out); (case side3 => exact Kit.cr HR0_3.out HB.out); (case side4 => exact HC0_3.out); (case side5 => exact Kit.cr HR1_1.out HB.out); (case side6 => exact HC1_1.out); (case side7 => exact Kit.cr HR1_3.out HB.out); (case side8 => exact HC1_3.out); rintro e w13 ⟨rfl, hb⟩; refine ⟨_, rfl, ?_⟩; replace BK285 := Kit.bB BK285 hb; replace BK286 := Kit.bB BK286 hb; replace HB := Kit.hB hb; (try clear hb); (try clear hb2); (try clear hk); (try clear hi); obtain ⟨hcz14_0, hcz14_1, hcz14_2, hcz14_3, hcz14_4, hcz14_5, hcz14_6, hfz14_0, hfz14_1, hfz14_2, hfz14_3, hfz14_4, hfz14_5, hfz14_6⟩ := Kit.c7 BK285.out; obtain ⟨hcz15_0, hcz15_1, hcz15_2, hcz15_3, hcz15_4, hcz15_5, hcz15_6, hfz15_0, hfz15_1, hfz15_2, hfz15_3, hfz15_4, hfz15_5, hfz15_6⟩ := Kit.c7 BK286.out) | (go_at_call 117; (with_reducible refine (impl_SameResponse.calls k a0_2 _ _ l0_3 a0_4 a1_2 _ _ l1_3 a1_4 true _ ?side1 ?side2 ?side3 ?side4 A5.out).mono ?_); (case side1 => exact Kit.cr HR0_3.out HB.out); (case side2 => exact HC0_3.out); (case side3 => exact Kit.cr HR1_3.out HB.out); (case side4 => exact HC1_3.out); rintro e w16 ⟨rfl, hb⟩; replace BK285 := Kit.bB BK285 hb; replace BK286 := Kit.bB BK286 hb; replace HB := Kit.hB hb; (try clear hb); (try clear hb2); (try clear hk); (try clear hi); obtain ⟨hcz17_0, hcz17_1, hcz17_2, hcz17_3, hcz17_4, hcz17_5, hcz17_6, hfz17_0, hfz17_1, hfz17_2, hfz17_3, hfz17_4, hfz17_5, hfz17_6⟩ := Kit.c7 BK285.out; obtain ⟨hcz18_0, hcz18_1, hcz18_2, hcz18_3, hcz18_4, hcz18_5, hcz18_6, hfz18_0, hfz18_1, hfz18_2, hfz18_3, hfz18_4, hfz18_5, hfz18_6⟩ := Kit.c7 BK286.out))
        go_ret
        exact ⟨Kit.er, Kit.bl⟩
      · rw [if_neg c7] at H
        have c7b0 : (a0_5 == a1_5) = false := beq_eq_false_iff_ne.mpr c7
        have c7b1 : (a0_5 != a1_5) = true := bne_iff_ne.mpr c7
        obtain rfl := Option.some.inj H
        go_enter Try.func104, Try.ntmps104
        go_wp2_with (first | ((with_reducible refine gate_dst (N := 2) rfl ?_); refine box_event ?hg (N := 2) ?hd (cs := #[.string a0_0, .slice A0_1 l0_1.length c0_1, .int .i64 a0_2, .slice A0_3 l0_3.length c0_3, .string a0_4, .int .i64 a0_5, .int .i64 a0_6]) (t := 28) ?hr ?_; (case hd => rfl); (case hg => rfl); (case hr => exact Kit.hr); intro gb285 hg w19 hbox hb; have BK285 := Aside0.mk (hbox); have GW285 := Kit.gX (w := w) hg; have GE285 := GW285; replace HB := Kit.hB hb; clear hb hbox hg) | ((with_reducible refine gate_dst (N := 3) rfl ?_); refine box_event ?hg (N := 3) ?hd (cs := #[.string a1_0, .slice A1_1 l1_1.length c1_1, .int .i64 a1_2, .slice A1_3 l1_3.length c1_3, .string a1_4, .int .i64 a1_5, .int .i64 a1_6]) (t := 28) ?hr ?_; (case hd => rfl); (case hg => rfl); (case hr => exact Kit.hr); intro gb286 hg w20 hbox hb; have BK286 := Aside0.mk (hbox); have GW286 := Kit.gX (w := w) hg; have GE286 := GW286; replace HB := Kit.hB hb; have NB285_286 := Aside0.mk (Kit.nlt hg BK285.out); have NB286_285 := Aside0.mk (Kit.ngt hg BK285.out); replace BK285 := Kit.bB BK285 hb; clear hb hbox hg; have hnb21 := NB285_286.out; have hnc21 := NB286_285.out; obtain ⟨hcz22_0, hcz22_1, hcz22_2, hcz22_3, hcz22_4, hcz22_5, hcz22_6, hfz22_0, hfz22_1, hfz22_2, hfz22_3, hfz22_4, hfz22_5, hfz22_6⟩ := Kit.c7 BK285.out; obtain ⟨hcz23_0, hcz23_1, hcz23_2, hcz23_3, hcz23_4, hcz23_5, hcz23_6, hfz23_0, hfz23_1, hfz23_2, hfz23_3, hfz23_4, hfz23_5, hfz23_6⟩ := Kit.c7 BK286.out) | ((with_reducible refine Kit.gate_callee (f := 116) rfl ?_); refine goesL_ (some 7) rfl rfl Try.func116 (by kernel_rfl) rfl #[.agg #[.string a0_0, .slice A0_1 l0_1.length c0_1, .int .i64 a0_2, .slice A0_3 l0_3.length c0_3, .string a0_4, .int .i64 a0_5, .int .i64 a0_6], .agg #[.string a1_0, .slice A1_1 l1_1.length c1_1, .int .i64 a1_2, .slice A1_3 l1_3.length c1_3, .string a1_4, .int .i64 a1_5, .int .i64 a1_6]] rfl Kit.am ?_; (with_reducible refine (impl_standAlike.calls k a0_0 _ _ l0_1 a0_2 _ _ l0_3 a0_4 a0_5 a0_6 a1_0 _ _ l1_1 a1_2 _ _ l1_3 a1_4 a1_5 a1_6 true _ ?side1 ?side2 ?side3 ?side4 ?side5 ?side6 ?side7 ?side8 A3.out).mono ?_); (case side1 => exact Kit.cr HR0_1.out HB.out); (case side2 => exact HC0_1.out); (case side3 => exact Kit.cr HR0_3.out HB.out); (case side4 => exact HC0_3.out); (case side5 => exact Kit.cr HR1_1.out HB.out); (case side6 => exact HC1_1.out); (case side7 => exact Kit.cr HR1_3.out HB.out); (case side8 => exact HC1_3.out); rintro e w24 ⟨rfl, hb⟩; refine ⟨_, rfl, ?_⟩; replace BK285 := Kit.bB BK285 hb; replace BK286 := Kit.bB BK286 hb; replace HB := Kit.hB hb; (try clear hb); (try clear hb2); (try clear hk); (try clear hi); obtain ⟨hcz25_0, hcz25_1, hcz25_2, hcz25_3, hcz25_4, hcz25_5, hcz25_6, hfz25_0, hfz25_1, hfz25_2, hfz25_3, hfz25_4, hfz25_5, hfz25_6⟩ := Kit.c7 BK285.out; obtain ⟨hcz26_0, hcz26_1, hcz26_2, hcz26_3, hcz26_4, hcz26_5, hcz26_6, hfz26_0, hfz26_1, hfz26_2, hfz26_3, hfz26_4, hfz26_5, hfz26_6⟩ := Kit.c7 BK286.out) | (go_at_call 117; (with_reducible refine (impl_SameResponse.calls k a0_2 _ _ l0_3 a0_4 a1_2 _ _ l1_3 a1_4 true _ ?side1 ?side2 ?side3 ?side4 A5.out).mono ?_); (case side1 => exact Kit.cr HR0_3.out HB.out); (case side2 => exact HC0_3.out); (case side3 => exact Kit.cr HR1_3.out HB.out); (case side4 => exact HC1_3.out); rintro e w27 ⟨rfl, hb⟩; replace BK285 := Kit.bB BK285 hb; replace BK286 := Kit.bB BK286 hb; replace HB := Kit.hB hb; (try clear hb); (try clear hb2); (try clear hk); (try clear hi); obtain ⟨hcz28_0, hcz28_1, hcz28_2, hcz28_3, hcz28_4, hcz28_5, hcz28_6, hfz28_0, hfz28_1, hfz28_2, hfz28_3, hfz28_4, hfz28_5, hfz28_6⟩ := Kit.c7 BK285.out; obtain ⟨hcz29_0, hcz29_1, hcz29_2, hcz29_3, hcz29_4, hcz29_5, hcz29_6, hfz29_0, hfz29_1, hfz29_2, hfz29_3, hfz29_4, hfz29_5, hfz29_6⟩ := Kit.c7 BK286.out))
        go_ret
        exact ⟨Kit.er, Kit.bl⟩
    · replace c6 := Bool.eq_false_iff.mpr c6
      subst c6
      have H1 : (some false) = some r := by rw [if_neg (show ¬ (false = true) by decide)] at H; exact H
      clear H
      have H := H1
      clear H1
      obtain rfl := Option.some.inj H
      go_enter Try.func104, Try.ntmps104
      go_wp2_with (first | ((with_reducible refine gate_dst (N := 2) rfl ?_); refine box_event ?hg (N := 2) ?hd (cs := #[.string a0_0, .slice A0_1 l0_1.length c0_1, .int .i64 a0_2, .slice A0_3 l0_3.length c0_3, .string a0_4, .int .i64 a0_5, .int .i64 a0_6]) (t := 28) ?hr ?_; (case hd => rfl); (case hg => rfl); (case hr => exact Kit.hr); intro gb285 hg w30 hbox hb; have BK285 := Aside0.mk (hbox); have GW285 := Kit.gX (w := w) hg; have GE285 := GW285; replace HB := Kit.hB hb; clear hb hbox hg) | ((with_reducible refine gate_dst (N := 3) rfl ?_); refine box_event ?hg (N := 3) ?hd (cs := #[.string a1_0, .slice A1_1 l1_1.length c1_1, .int .i64 a1_2, .slice A1_3 l1_3.length c1_3, .string a1_4, .int .i64 a1_5, .int .i64 a1_6]) (t := 28) ?hr ?_; (case hd => rfl); (case hg => rfl); (case hr => exact Kit.hr); intro gb286 hg w31 hbox hb; have BK286 := Aside0.mk (hbox); have GW286 := Kit.gX (w := w) hg; have GE286 := GW286; replace HB := Kit.hB hb; have NB285_286 := Aside0.mk (Kit.nlt hg BK285.out); have NB286_285 := Aside0.mk (Kit.ngt hg BK285.out); replace BK285 := Kit.bB BK285 hb; clear hb hbox hg; have hnb32 := NB285_286.out; have hnc32 := NB286_285.out; obtain ⟨hcz33_0, hcz33_1, hcz33_2, hcz33_3, hcz33_4, hcz33_5, hcz33_6, hfz33_0, hfz33_1, hfz33_2, hfz33_3, hfz33_4, hfz33_5, hfz33_6⟩ := Kit.c7 BK285.out; obtain ⟨hcz34_0, hcz34_1, hcz34_2, hcz34_3, hcz34_4, hcz34_5, hcz34_6, hfz34_0, hfz34_1, hfz34_2, hfz34_3, hfz34_4, hfz34_5, hfz34_6⟩ := Kit.c7 BK286.out) | ((with_reducible refine Kit.gate_callee (f := 116) rfl ?_); refine goesL_ (some 7) rfl rfl Try.func116 (by kernel_rfl) rfl #[.agg #[.string a0_0, .slice A0_1 l0_1.length c0_1, .int .i64 a0_2, .slice A0_3 l0_3.length c0_3, .string a0_4, .int .i64 a0_5, .int .i64 a0_6], .agg #[.string a1_0, .slice A1_1 l1_1.length c1_1, .int .i64 a1_2, .slice A1_3 l1_3.length c1_3, .string a1_4, .int .i64 a1_5, .int .i64 a1_6]] rfl Kit.am ?_; (with_reducible refine (impl_standAlike.calls k a0_0 _ _ l0_1 a0_2 _ _ l0_3 a0_4 a0_5 a0_6 a1_0 _ _ l1_1 a1_2 _ _ l1_3 a1_4 a1_5 a1_6 true _ ?side1 ?side2 ?side3 ?side4 ?side5 ?side6 ?side7 ?side8 A3.out).mono ?_); (case side1 => exact Kit.cr HR0_1.out HB.out); (case side2 => exact HC0_1.out); (case side3 => exact Kit.cr HR0_3.out HB.out); (case side4 => exact HC0_3.out); (case side5 => exact Kit.cr HR1_1.out HB.out); (case side6 => exact HC1_1.out); (case side7 => exact Kit.cr HR1_3.out HB.out); (case side8 => exact HC1_3.out); rintro e w35 ⟨rfl, hb⟩; refine ⟨_, rfl, ?_⟩; replace BK285 := Kit.bB BK285 hb; replace BK286 := Kit.bB BK286 hb; replace HB := Kit.hB hb; (try clear hb); (try clear hb2); (try clear hk); (try clear hi); obtain ⟨hcz36_0, hcz36_1, hcz36_2, hcz36_3, hcz36_4, hcz36_5, hcz36_6, hfz36_0, hfz36_1, hfz36_2, hfz36_3, hfz36_4, hfz36_5, hfz36_6⟩ := Kit.c7 BK285.out; obtain ⟨hcz37_0, hcz37_1, hcz37_2, hcz37_3, hcz37_4, hcz37_5, hcz37_6, hfz37_0, hfz37_1, hfz37_2, hfz37_3, hfz37_4, hfz37_5, hfz37_6⟩ := Kit.c7 BK286.out) | (go_at_call 117; (with_reducible refine (impl_SameResponse.calls k a0_2 _ _ l0_3 a0_4 a1_2 _ _ l1_3 a1_4 false _ ?side1 ?side2 ?side3 ?side4 A5.out).mono ?_); (case side1 => exact Kit.cr HR0_3.out HB.out); (case side2 => exact HC0_3.out); (case side3 => exact Kit.cr HR1_3.out HB.out); (case side4 => exact HC1_3.out); rintro e w38 ⟨rfl, hb⟩; replace BK285 := Kit.bB BK285 hb; replace BK286 := Kit.bB BK286 hb; replace HB := Kit.hB hb; (try clear hb); (try clear hb2); (try clear hk); (try clear hi)))
      go_ret
      exact ⟨Kit.er, Kit.bl⟩
  · replace c4 := Bool.eq_false_iff.mpr c4
    subst c4
    have H1 : (some false) = some r := by rw [if_neg (show ¬ (false = true) by decide)] at H; exact H
    clear H
    have H := H1
    clear H1
    obtain rfl := Option.some.inj H
    go_enter Try.func104, Try.ntmps104
    go_wp2_with (first | ((with_reducible refine gate_dst (N := 2) rfl ?_); refine box_event ?hg (N := 2) ?hd (cs := #[.string a0_0, .slice A0_1 l0_1.length c0_1, .int .i64 a0_2, .slice A0_3 l0_3.length c0_3, .string a0_4, .int .i64 a0_5, .int .i64 a0_6]) (t := 28) ?hr ?_; (case hd => rfl); (case hg => rfl); (case hr => exact Kit.hr); intro gb285 hg w39 hbox hb; have BK285 := Aside0.mk (hbox); have GW285 := Kit.gX (w := w) hg; have GE285 := GW285; replace HB := Kit.hB hb; clear hb hbox hg) | ((with_reducible refine gate_dst (N := 3) rfl ?_); refine box_event ?hg (N := 3) ?hd (cs := #[.string a1_0, .slice A1_1 l1_1.length c1_1, .int .i64 a1_2, .slice A1_3 l1_3.length c1_3, .string a1_4, .int .i64 a1_5, .int .i64 a1_6]) (t := 28) ?hr ?_; (case hd => rfl); (case hg => rfl); (case hr => exact Kit.hr); intro gb286 hg w40 hbox hb; have BK286 := Aside0.mk (hbox); have GW286 := Kit.gX (w := w) hg; have GE286 := GW286; replace HB := Kit.hB hb; have NB285_286 := Aside0.mk (Kit.nlt hg BK285.out); have NB286_285 := Aside0.mk (Kit.ngt hg BK285.out); replace BK285 := Kit.bB BK285 hb; clear hb hbox hg; have hnb41 := NB285_286.out; have hnc41 := NB286_285.out; obtain ⟨hcz42_0, hcz42_1, hcz42_2, hcz42_3, hcz42_4, hcz42_5, hcz42_6, hfz42_0, hfz42_1, hfz42_2, hfz42_3, hfz42_4, hfz42_5, hfz42_6⟩ := Kit.c7 BK285.out; obtain ⟨hcz43_0, hcz43_1, hcz43_2, hcz43_3, hcz43_4, hcz43_5, hcz43_6, hfz43_0, hfz43_1, hfz43_2, hfz43_3, hfz43_4, hfz43_5, hfz43_6⟩ := Kit.c7 BK286.out) | ((with_reducible refine Kit.gate_callee (f := 116) rfl ?_); refine goesL_ (some 7) rfl rfl Try.func116 (by kernel_rfl) rfl #[.agg #[.string a0_0, .slice A0_1 l0_1.length c0_1, .int .i64 a0_2, .slice A0_3 l0_3.length c0_3, .string a0_4, .int .i64 a0_5, .int .i64 a0_6], .agg #[.string a1_0, .slice A1_1 l1_1.length c1_1, .int .i64 a1_2, .slice A1_3 l1_3.length c1_3, .string a1_4, .int .i64 a1_5, .int .i64 a1_6]] rfl Kit.am ?_; (with_reducible refine (impl_standAlike.calls k a0_0 _ _ l0_1 a0_2 _ _ l0_3 a0_4 a0_5 a0_6 a1_0 _ _ l1_1 a1_2 _ _ l1_3 a1_4 a1_5 a1_6 false _ ?side1 ?side2 ?side3 ?side4 ?side5 ?side6 ?side7 ?side8 A3.out).mono ?_); (case side1 => exact Kit.cr HR0_1.out HB.out); (case side2 => exact HC0_1.out); (case side3 => exact Kit.cr HR0_3.out HB.out); (case side4 => exact HC0_3.out); (case side5 => exact Kit.cr HR1_1.out HB.out); (case side6 => exact HC1_1.out); (case side7 => exact Kit.cr HR1_3.out HB.out); (case side8 => exact HC1_3.out); rintro e w44 ⟨rfl, hb⟩; refine ⟨_, rfl, ?_⟩; replace BK285 := Kit.bB BK285 hb; replace BK286 := Kit.bB BK286 hb; replace HB := Kit.hB hb; (try clear hb); (try clear hb2); (try clear hk); (try clear hi)))
    go_ret
    exact ⟨Kit.er, Kit.bl⟩

/-! ### impl_SameShard_1: function 103 -/
def impl_SameShard_1.f (k : Nat) (a0_0 : ByteArray) (l0_1 : List (S76)) (a0_2 : Int) (l0_3 : List (S76)) (a0_4 : ByteArray) (a0_5 : Int) (a0_6 : Int) (a0_7 : Bool) (a1_0 : ByteArray) (l1_1 : List (S76)) (a1_2 : Int) (l1_3 : List (S76)) (a1_4 : ByteArray) (a1_5 : Int) (a1_6 : Int) (a1_7 : Bool) : Option (Bool) := if (a0_7 == a1_7) = true then ((impl_sameStored.f k a0_0 l0_1 a0_2 l0_3 a0_4 a0_5 a0_6 a1_0 l1_1 a1_2 l1_3 a1_4 a1_5 a1_6).bind fun t291 => (some t291)) else (some false)
theorem impl_SameShard_1.mono : ∀ a0 a1 a2 a3 a4 a5 a6 a7 a8 a9 a10 a11 a12 a13 a14 a15 k, LeO (impl_SameShard_1.f k a0 a1 a2 a3 a4 a5 a6 a7 a8 a9 a10 a11 a12 a13 a14 a15) (impl_SameShard_1.f (k + 1) a0 a1 a2 a3 a4 a5 a6 a7 a8 a9 a10 a11 a12 a13 a14 a15) := by
  intro a0 a1 a2 a3 a4 a5 a6 a7 a8 a9 a10 a11 a12 a13 a14 a15 k
  unfold impl_SameShard_1.f
  repeat' first
      | (with_reducible exact impl_sameStored.mono _ _ _ _ _ _ _ _ _ _ _ _ _ _ _)
      | (with_reducible exact LeO.refl _)
      | (with_reducible exact LeO.none _)
      | (with_reducible refine LeO.ite ?_ ?_)
      | (with_reducible refine LeO.bind ?_ (fun _ => ?_))
      | exact impl_sameStored.mono _ _ _ _ _ _ _ _ _ _ _ _ _ _ _
      | exact LeO.none _
      | refine LeO.ite ?_ ?_
      | refine LeO.bind ?_ (fun _ => ?_)
set_option maxHeartbeats 8000000 in
set_option maxRecDepth 100000 in
theorem impl_SameShard_1.calls (k : Nat) (a0_0 : ByteArray) (A0_1 : Option Addr) (c0_1 : Nat) (l0_1 : List (S76)) (a0_2 : Int) (A0_3 : Option Addr) (c0_3 : Nat) (l0_3 : List (S76)) (a0_4 : ByteArray) (a0_5 : Int) (a0_6 : Int) (a0_7 : Bool) (a1_0 : ByteArray) (A1_1 : Option Addr) (c1_1 : Nat) (l1_1 : List (S76)) (a1_2 : Int) (A1_3 : Option Addr) (c1_3 : Nat) (l1_3 : List (S76)) (a1_4 : ByteArray) (a1_5 : Int) (a1_6 : Int) (a1_7 : Bool) (r : Bool) (w : World) (hr0_1 : Kd.C k76 w A0_1 l0_1.length l0_1) (hc0_1 : l0_1.length ≤ c0_1) (hr0_3 : Kd.C k76 w A0_3 l0_3.length l0_3) (hc0_3 : l0_3.length ≤ c0_3) (hr1_1 : Kd.C k76 w A1_1 l1_1.length l1_1) (hc1_1 : l1_1.length ≤ c1_1) (hr1_3 : Kd.C k76 w A1_3 l1_3.length l1_3) (hc1_3 : l1_3.length ≤ c1_3) (h : impl_SameShard_1.f k a0_0 l0_1 a0_2 l0_3 a0_4 a0_5 a0_6 a0_7 a1_0 l1_1 a1_2 l1_3 a1_4 a1_5 a1_6 a1_7 = some r) :
    Calls Try.prog 103 #[.agg #[.string a0_0, .slice A0_1 l0_1.length c0_1, .int .i64 a0_2, .slice A0_3 l0_3.length c0_3, .string a0_4, .int .i64 a0_5, .int .i64 a0_6, .bool a0_7], .agg #[.string a1_0, .slice A1_1 l1_1.length c1_1, .int .i64 a1_2, .slice A1_3 l1_3.length c1_3, .string a1_4, .int .i64 a1_5, .int .i64 a1_6, .bool a1_7]] w fun e w' => e = .returned (.bool r) ∧ Below w.heap.size w w' := by
  have hu131 := Try.underlying131
  have hu28 := Try.underlying28
  have HR0_1 := Aside0.mk hr0_1
  have HC0_1 := Aside0.mk hc0_1
  clear hr0_1 hc0_1
  have HR0_3 := Aside0.mk hr0_3
  have HC0_3 := Aside0.mk hc0_3
  clear hr0_3 hc0_3
  have HR1_1 := Aside0.mk hr1_1
  have HC1_1 := Aside0.mk hc1_1
  clear hr1_1 hc1_1
  have HR1_3 := Aside0.mk hr1_3
  have HC1_3 := Aside0.mk hc1_3
  clear hr1_3 hc1_3
  have HB := Aside0.mk (Below.refl w.heap.size w)
  have H : (if (a0_7 == a1_7) = true then ((impl_sameStored.f k a0_0 l0_1 a0_2 l0_3 a0_4 a0_5 a0_6 a1_0 l1_1 a1_2 l1_3 a1_4 a1_5 a1_6).bind fun t291 => (some t291)) else (some false)) = some r := h
  clear h
  by_cases c3 : (a0_7 == a1_7) = true
  · rw [if_pos c3] at H
    have c3b0 : (a0_7 == a1_7) = true := c3
    (try (have c3b1 : decide (a0_7 = a1_7) = true := by simpa using c3))
    (try (have c3b2 : (a0_7 == a1_7) = true := by simpa using c3))
    clear c3
    replace H := Option.bind_eq_some_iff.mp H
    obtain ⟨t291, A40, H⟩ := H
    replace H : (some t291) = some r := H
    have A4 := Aside0.mk A40
    clear A40
    obtain rfl := Option.some.inj H
    go_enter Try.func103, Try.ntmps103
    go_wp2_with (first | ((with_reducible refine gate_dst (N := 2) rfl ?_); refine box_event ?hg (N := 2) ?hd (cs := #[.string a0_0, .slice A0_1 l0_1.length c0_1, .int .i64 a0_2, .slice A0_3 l0_3.length c0_3, .string a0_4, .int .i64 a0_5, .int .i64 a0_6, .bool a0_7]) (t := 131) ?hr ?_; (case hd => rfl); (case hg => rfl); (case hr => exact Kit.hr); intro gb289 hg w5 hbox hb; have BK289 := Aside0.mk (hbox); have GW289 := Kit.gX (w := w) hg; have GE289 := GW289; replace HB := Kit.hB hb; clear hb hbox hg) | ((with_reducible refine gate_dst (N := 3) rfl ?_); refine box_event ?hg (N := 3) ?hd (cs := #[.string a1_0, .slice A1_1 l1_1.length c1_1, .int .i64 a1_2, .slice A1_3 l1_3.length c1_3, .string a1_4, .int .i64 a1_5, .int .i64 a1_6, .bool a1_7]) (t := 131) ?hr ?_; (case hd => rfl); (case hg => rfl); (case hr => exact Kit.hr); intro gb290 hg w6 hbox hb; have BK290 := Aside0.mk (hbox); have GW290 := Kit.gX (w := w) hg; have GE290 := GW290; replace HB := Kit.hB hb; have NB289_290 := Aside0.mk (Kit.nlt hg BK289.out); have NB290_289 := Aside0.mk (Kit.ngt hg BK289.out); replace BK289 := Kit.bB BK289 hb; clear hb hbox hg; have hnb7 := NB289_290.out; have hnc7 := NB290_289.out; obtain ⟨hcz8_0, hcz8_1, hcz8_2, hcz8_3, hcz8_4, hcz8_5, hcz8_6, hcz8_7, hfz8_0, hfz8_1, hfz8_2, hfz8_3, hfz8_4, hfz8_5, hfz8_6, hfz8_7⟩ := Kit.c8 BK289.out; obtain ⟨hcz9_0, hcz9_1, hcz9_2, hcz9_3, hcz9_4, hcz9_5, hcz9_6, hcz9_7, hfz9_0, hfz9_1, hfz9_2, hfz9_3, hfz9_4, hfz9_5, hfz9_6, hfz9_7⟩ := Kit.c8 BK290.out) | (go_at_call 104; (with_reducible refine (impl_sameStored.calls k a0_0 _ _ l0_1 a0_2 _ _ l0_3 a0_4 a0_5 a0_6 a1_0 _ _ l1_1 a1_2 _ _ l1_3 a1_4 a1_5 a1_6 t291 _ ?side1 ?side2 ?side3 ?side4 ?side5 ?side6 ?side7 ?side8 A4.out).mono ?_); (case side1 => exact Kit.cr HR0_1.out HB.out); (case side2 => exact HC0_1.out); (case side3 => exact Kit.cr HR0_3.out HB.out); (case side4 => exact HC0_3.out); (case side5 => exact Kit.cr HR1_1.out HB.out); (case side6 => exact HC1_1.out); (case side7 => exact Kit.cr HR1_3.out HB.out); (case side8 => exact HC1_3.out); rintro e w10 ⟨rfl, hb⟩; replace BK289 := Kit.bB BK289 hb; replace BK290 := Kit.bB BK290 hb; replace HB := Kit.hB hb; (try clear hb); (try clear hb2); (try clear hk); (try clear hi)))
    go_ret
    exact ⟨Kit.er, Kit.bl⟩
  · rw [if_neg c3] at H
    have c3b0 : (a0_7 == a1_7) = false := by simpa using c3
    (try (have c3b1 : decide (a0_7 = a1_7) = false := by simpa using c3))
    (try (have c3b2 : (a0_7 == a1_7) = false := by simpa using c3))
    (try (have c3b3 : ¬ (a0_7 = a1_7) := by simpa using c3))
    clear c3
    obtain rfl := Option.some.inj H
    go_enter Try.func103, Try.ntmps103
    go_wp2_with (first | ((with_reducible refine gate_dst (N := 2) rfl ?_); refine box_event ?hg (N := 2) ?hd (cs := #[.string a0_0, .slice A0_1 l0_1.length c0_1, .int .i64 a0_2, .slice A0_3 l0_3.length c0_3, .string a0_4, .int .i64 a0_5, .int .i64 a0_6, .bool a0_7]) (t := 131) ?hr ?_; (case hd => rfl); (case hg => rfl); (case hr => exact Kit.hr); intro gb289 hg w11 hbox hb; have BK289 := Aside0.mk (hbox); have GW289 := Kit.gX (w := w) hg; have GE289 := GW289; replace HB := Kit.hB hb; clear hb hbox hg) | ((with_reducible refine gate_dst (N := 3) rfl ?_); refine box_event ?hg (N := 3) ?hd (cs := #[.string a1_0, .slice A1_1 l1_1.length c1_1, .int .i64 a1_2, .slice A1_3 l1_3.length c1_3, .string a1_4, .int .i64 a1_5, .int .i64 a1_6, .bool a1_7]) (t := 131) ?hr ?_; (case hd => rfl); (case hg => rfl); (case hr => exact Kit.hr); intro gb290 hg w12 hbox hb; have BK290 := Aside0.mk (hbox); have GW290 := Kit.gX (w := w) hg; have GE290 := GW290; replace HB := Kit.hB hb; have NB289_290 := Aside0.mk (Kit.nlt hg BK289.out); have NB290_289 := Aside0.mk (Kit.ngt hg BK289.out); replace BK289 := Kit.bB BK289 hb; clear hb hbox hg; have hnb13 := NB289_290.out; have hnc13 := NB290_289.out; obtain ⟨hcz14_0, hcz14_1, hcz14_2, hcz14_3, hcz14_4, hcz14_5, hcz14_6, hcz14_7, hfz14_0, hfz14_1, hfz14_2, hfz14_3, hfz14_4, hfz14_5, hfz14_6, hfz14_7⟩ := Kit.c8 BK289.out; obtain ⟨hcz15_0, hcz15_1, hcz15_2, hcz15_3, hcz15_4, hcz15_5, hcz15_6, hcz15_7, hfz15_0, hfz15_1, hfz15_2, hfz15_3, hfz15_4, hfz15_5, hfz15_6, hfz15_7⟩ := Kit.c8 BK290.out))
    go_ret
    exact ⟨Kit.er, Kit.bl⟩

/-! ### impl_Slot: function 102, at the function value 103, its own contract -/
def impl_Slot.f (k : Nat) (l0 l1 : List S131) (_ : Unit) : Option Bool := Kit.eqBy (fun x y => impl_SameShard_1.f k x.f0.f0 x.f0.f1 x.f0.f2.f0 x.f0.f2.f1 x.f0.f2.f2 x.f0.f3 x.f0.f4 x.f1 y.f0.f0 y.f0.f1 y.f0.f2.f0 y.f0.f2.f1 y.f0.f2.f2 y.f0.f3 y.f0.f4 y.f1) l0 l1
theorem impl_Slot.mono : ∀ a0 a1 a2 k, LeO (impl_Slot.f k a0 a1 a2) (impl_Slot.f (k + 1) a0 a1 a2) := fun a0 a1 _ k => Kit.eqBy_mono (fun x y => impl_SameShard_1.mono _ _ _ _ _ _ _ _ _ _ _ _ _ _ _ _ k) a0 a1
set_option maxHeartbeats 8000000 in
set_option maxRecDepth 100000 in
theorem impl_Slot.calls (k : Nat) (A0 : Option Addr) (c0 : Nat) (l0 : List S131) (A1 : Option Addr) (c1 : Nat) (l1 : List S131) (a2 : Unit) (r : Bool) (w : World) (hr0 : Kd.C k131 w A0 l0.length l0) (hc0 : l0.length ≤ c0) (hr1 : Kd.C k131 w A1 l1.length l1) (hc1 : l1.length ≤ c1) (h : impl_Slot.f k l0 l1 a2 = some r) :
    Calls Try.prog 102 #[.slice A0 l0.length c0, .slice A1 l1.length c1, .func (.func 103) #[] #[]] w fun e w' => e = .returned (.bool r) ∧ Below w.heap.size w w' := by
  have hu := Try.underlying131
  have eg := enters_of Try.func103 (by kernel_rfl) rfl
  have HR0 := Aside0.mk hr0
  have HR1 := Aside0.mk hr1
  have HM := Aside0.mk hr0.2.1
  have HP : Aside0 (∀ (W : World) (x y : S131) (cs ds : List Value) (t : Bool), Below w.heap.size w W → Kd.K k131 W x cs → Kd.K k131 W y ds → impl_SameShard_1.f k x.f0.f0 x.f0.f1 x.f0.f2.f0 x.f0.f2.f1 x.f0.f2.f2 x.f0.f3 x.f0.f4 x.f1 y.f0.f0 y.f0.f1 y.f0.f2.f0 y.f0.f2.f1 y.f0.f2.f2 y.f0.f3 y.f0.f4 y.f1 = some t → Calls Try.prog 103 #[.agg cs.toArray, .agg ds.toArray] W fun e w' => e = .returned (.bool t) ∧ Below W.heap.size W w') := ⟨by
    intro W x y cs ds t hb hx hy ht
    obtain ⟨A7_1, c7_1, A7_3, c7_3, rfl, l7_1, g7_1, l7_3, g7_3⟩ := k131_open hx
    obtain ⟨A8_1, c8_1, A8_3, c8_3, rfl, l8_1, g8_1, l8_3, g8_3⟩ := k131_open hy
    refine (impl_SameShard_1.calls k x.f0.f0 A7_1 c7_1 x.f0.f1 x.f0.f2.f0 A7_3 c7_3 x.f0.f2.f1 x.f0.f2.f2 x.f0.f3 x.f0.f4 x.f1 y.f0.f0 A8_1 c8_1 y.f0.f1 y.f0.f2.f0 A8_3 c8_3 y.f0.f2.f1 y.f0.f2.f2 y.f0.f3 y.f0.f4 y.f1 t W g7_1 l7_1 g7_3 l7_3 g8_1 l8_1 g8_3 l8_3 ht).mono ?_
    rintro e w' ⟨rfl, hd⟩
    exact ⟨rfl, hd⟩⟩
  have H : Kit.eqBy (fun x y => impl_SameShard_1.f k x.f0.f0 x.f0.f1 x.f0.f2.f0 x.f0.f2.f1 x.f0.f2.f2 x.f0.f3 x.f0.f4 x.f1 y.f0.f0 y.f0.f1 y.f0.f2.f0 y.f0.f2.f1 y.f0.f2.f2 y.f0.f3 y.f0.f4 y.f1) l0 l1 = some r := h
  clear hr0 hr1 h
  by_cases hl : l0.length = l1.length
  · have HA := Aside0.mk ((Kit.eqBy_same _ hl).symm.trans H)
    have HL := Aside0.mk hl
    have e1 : ((l0.length : Int) != (l1.length : Int)) = false := by simp [hl]
    have e2 : (l0.length != l1.length) = false := by simp [hl]
    have e3 : (l0.length == l1.length) = true := by simp [hl]
    clear H hl
    go_enter Try.func102, Try.ntmps102
    go_wp2
    go_loopg [7, 8, 9, 17] l0.length (fun gg v7 v8 v9 v17 wr => ∃ i : Int, v17 = .int .i64 i ∧ Aside0 (0 ≤ i ∧ i ≤ (l0.length : Int)) ∧ Aside0 ((l0.length : Int) - i ≤ (gg : Int)) ∧ Aside0 (Below w.heap.size w wr) ∧ Aside0 (Kit.eqAll (fun x y => impl_SameShard_1.f k x.f0.f0 x.f0.f1 x.f0.f2.f0 x.f0.f2.f1 x.f0.f2.f2 x.f0.f3 x.f0.f4 x.f1 y.f0.f0 y.f0.f1 y.f0.f2.f0 y.f0.f2.f1 y.f0.f2.f2 y.f0.f3 y.f0.f4 y.f1) (l0.drop i.toNat) (l1.drop i.toNat) = some r))
    case atStart => exact ⟨0, rfl, ⟨by omega⟩, ⟨by omega⟩, ⟨Below.refl _ _⟩, ⟨HA.out⟩⟩
    case round =>
    clear HA e1 e2 e3
    obtain ⟨i, rfl, HI, HG, HB, HA⟩ := hrel
    have p5 : 0 ≤ i := HI.out.1
    by_cases q5 : i < (l0.length : Int)
    · have c5 : decide (i < (l0.length : Int)) = true := decide_eq_true q5
      have q6 : i < (l1.length : Int) := by have := HL.out; omega
      have p6 := p5
      obtain ⟨ad5, A5_1, c5_1, A5_3, c5_3, e5, hx5_0, hx5_1, hx5_2, hx5_3, hx5_4, hx5_5, hx5_6, hx5_7, hl5_1, hi5_1, hl5_3, hi5_3⟩ := at_T131 HR0.out i p5 q5
      cases e5
      replace hx5_0 := (HB.out.cell (World.block_lt_of_cell? w _ hx5_0)).trans hx5_0
      replace hx5_1 := (HB.out.cell (World.block_lt_of_cell? w _ hx5_1)).trans hx5_1
      replace hx5_2 := (HB.out.cell (World.block_lt_of_cell? w _ hx5_2)).trans hx5_2
      replace hx5_3 := (HB.out.cell (World.block_lt_of_cell? w _ hx5_3)).trans hx5_3
      replace hx5_4 := (HB.out.cell (World.block_lt_of_cell? w _ hx5_4)).trans hx5_4
      replace hx5_5 := (HB.out.cell (World.block_lt_of_cell? w _ hx5_5)).trans hx5_5
      replace hx5_6 := (HB.out.cell (World.block_lt_of_cell? w _ hx5_6)).trans hx5_6
      replace hx5_7 := (HB.out.cell (World.block_lt_of_cell? w _ hx5_7)).trans hx5_7
      have E5 := Aside0.mk (k131_mk _ (rd_T131 l0 i) hl5_1 (Kd.C_below hi5_1 HB.out) hl5_3 (Kd.C_below hi5_3 HB.out))
      clear hl5_1 hi5_1 hl5_3 hi5_3
      obtain ⟨ad6, A6_1, c6_1, A6_3, c6_3, e6, hx6_0, hx6_1, hx6_2, hx6_3, hx6_4, hx6_5, hx6_6, hx6_7, hl6_1, hi6_1, hl6_3, hi6_3⟩ := at_T131 HR1.out i p6 q6
      cases e6
      replace hx6_0 := (HB.out.cell (World.block_lt_of_cell? w _ hx6_0)).trans hx6_0
      replace hx6_1 := (HB.out.cell (World.block_lt_of_cell? w _ hx6_1)).trans hx6_1
      replace hx6_2 := (HB.out.cell (World.block_lt_of_cell? w _ hx6_2)).trans hx6_2
      replace hx6_3 := (HB.out.cell (World.block_lt_of_cell? w _ hx6_3)).trans hx6_3
      replace hx6_4 := (HB.out.cell (World.block_lt_of_cell? w _ hx6_4)).trans hx6_4
      replace hx6_5 := (HB.out.cell (World.block_lt_of_cell? w _ hx6_5)).trans hx6_5
      replace hx6_6 := (HB.out.cell (World.block_lt_of_cell? w _ hx6_6)).trans hx6_6
      replace hx6_7 := (HB.out.cell (World.block_lt_of_cell? w _ hx6_7)).trans hx6_7
      have E6 := Aside0.mk (k131_mk _ (rd_T131 l1 i) hl6_1 (Kd.C_below hi6_1 HB.out) hl6_3 (Kd.C_below hi6_3 HB.out))
      clear hl6_1 hi6_1 hl6_3 hi6_3
      obtain ⟨t, ht, HT⟩ := Kit.eqAll_step (fun x y => impl_SameShard_1.f k x.f0.f0 x.f0.f1 x.f0.f2.f0 x.f0.f2.f1 x.f0.f2.f2 x.f0.f3 x.f0.f4 x.f1 y.f0.f0 y.f0.f1 y.f0.f2.f0 y.f0.f2.f1 y.f0.f2.f2 y.f0.f3 y.f0.f4 y.f1) l0 l1 z131 i p5 q5 q6 HA.out
      have hcall : ∀ W : World, Below wr.heap.size wr W → _ := fun W hW => HP.out W (rd_T131 l0 i) (rd_T131 l1 i) _ _ t (Kit.below_trans HB.out hW) ((k131).K_below hW E5.out) ((k131).K_below hW E6.out) ht
      have HC := Aside0.mk hcall
      have HT' := Aside0.mk HT
      clear hcall HT ht E5 E6 HP HR0 HR1
      replace p5 := eq_true p5
      replace q5 := eq_true q5
      replace q6 := eq_true q6
      clear p6
      have HW0 : Below wr.heap.size wr wr := Below.refl _ _
      cases t with
      | true =>
        rw [if_pos rfl] at HT'
        go_wp2_with (first
          | ((with_reducible refine gate_dst (N := 25) rfl ?_); refine Kit.atAlloc ?_; intro w1 hb hbox; replace hx6_0 := Kit.hx hb hx6_0; replace hx6_1 := Kit.hx hb hx6_1; replace hx6_2 := Kit.hx hb hx6_2; replace hx6_3 := Kit.hx hb hx6_3; replace hx6_4 := Kit.hx hb hx6_4; replace hx6_5 := Kit.hx hb hx6_5; replace hx6_6 := Kit.hx hb hx6_6; replace hx6_7 := Kit.hx hb hx6_7; replace HW0 := Kit.below_trans HW0 hb; obtain ⟨hz5_0, hz5_1, hz5_2, hz5_3, hz5_4, hz5_5, hz5_6, hz5_7, hy5_0, hy5_1, hy5_2, hy5_3, hy5_4, hy5_5, hy5_6, hy5_7⟩ := Kit.c8 hbox; clear hb hbox)
          | ((with_reducible refine gate_dst (N := 27) rfl ?_); refine Kit.atAlloc ?_; intro w2 hb hbox; replace hz5_0 := Kit.hx hb hz5_0; replace hz5_1 := Kit.hx hb hz5_1; replace hz5_2 := Kit.hx hb hz5_2; replace hz5_3 := Kit.hx hb hz5_3; replace hz5_4 := Kit.hx hb hz5_4; replace hz5_5 := Kit.hx hb hz5_5; replace hz5_6 := Kit.hx hb hz5_6; replace hz5_7 := Kit.hx hb hz5_7; replace HW0 := Kit.below_trans HW0 hb; obtain ⟨hz6_0, hz6_1, hz6_2, hz6_3, hz6_4, hz6_5, hz6_6, hz6_7, hy6_0, hy6_1, hy6_2, hy6_3, hy6_4, hy6_5, hy6_6, hy6_7⟩ := Kit.c8 hbox; clear hb hbox)
          | (go_at_call 103; refine (HC.out _ HW0).mono ?_; rintro e w' ⟨rfl, hb'⟩))
        go_roundg (gk - 1)
        case measure => have := HG.out; have := of_eq_true q5; omega
        case rel =>
          have hw : wrap64 (i + 1) = i + 1 := by have := HI.out; have := HM.out; have := of_eq_true q5; unfold wrap64; omega
          refine ⟨wrap64 (i + 1), rfl, ⟨by have := HI.out; have := of_eq_true q5; omega⟩, ⟨by have := HG.out; have := of_eq_true q5; omega⟩, ⟨Kit.below_trans HB.out (Kit.below_trans HW0 hb')⟩, ⟨?_⟩⟩
          rw [hw, show (i + 1).toNat = i.toNat + 1 by have := HI.out; omega]
          exact HT'.out
      | false =>
        have hr : r = false := HT'.out
        go_wp2_with (first
          | ((with_reducible refine gate_dst (N := 25) rfl ?_); refine Kit.atAlloc ?_; intro w1 hb hbox; replace hx6_0 := Kit.hx hb hx6_0; replace hx6_1 := Kit.hx hb hx6_1; replace hx6_2 := Kit.hx hb hx6_2; replace hx6_3 := Kit.hx hb hx6_3; replace hx6_4 := Kit.hx hb hx6_4; replace hx6_5 := Kit.hx hb hx6_5; replace hx6_6 := Kit.hx hb hx6_6; replace hx6_7 := Kit.hx hb hx6_7; replace HW0 := Kit.below_trans HW0 hb; obtain ⟨hz5_0, hz5_1, hz5_2, hz5_3, hz5_4, hz5_5, hz5_6, hz5_7, hy5_0, hy5_1, hy5_2, hy5_3, hy5_4, hy5_5, hy5_6, hy5_7⟩ := Kit.c8 hbox; clear hb hbox)
          | ((with_reducible refine gate_dst (N := 27) rfl ?_); refine Kit.atAlloc ?_; intro w2 hb hbox; replace hz5_0 := Kit.hx hb hz5_0; replace hz5_1 := Kit.hx hb hz5_1; replace hz5_2 := Kit.hx hb hz5_2; replace hz5_3 := Kit.hx hb hz5_3; replace hz5_4 := Kit.hx hb hz5_4; replace hz5_5 := Kit.hx hb hz5_5; replace hz5_6 := Kit.hx hb hz5_6; replace hz5_7 := Kit.hx hb hz5_7; replace HW0 := Kit.below_trans HW0 hb; obtain ⟨hz6_0, hz6_1, hz6_2, hz6_3, hz6_4, hz6_5, hz6_6, hz6_7, hy6_0, hy6_1, hy6_2, hy6_3, hy6_4, hy6_5, hy6_6, hy6_7⟩ := Kit.c8 hbox; clear hb hbox)
          | (go_at_call 103; refine (HC.out _ HW0).mono ?_; rintro e w' ⟨rfl, hb'⟩))
        go_ret
        exact ⟨by first | rfl | exact Kit.ret_bool hr.symm, Kit.below_trans HB.out (Kit.below_trans HW0 hb')⟩
    · have c5 : decide (i < (l0.length : Int)) = false := decide_eq_false q5
      have hr : r = true := Kit.eqAll_end _ l0 l1 i p5 q5 (by have := HL.out; omega) HA.out
      go_wp2
      go_ret
      exact ⟨by first | rfl | exact Kit.ret_bool hr.symm, HB.out⟩
  · have hr : r = false := Kit.eqBy_other _ hl H
    have e1 : ((l0.length : Int) != (l1.length : Int)) = true := by simp only [bne_iff_ne, ne_eq]; omega
    have e2 : (l0.length != l1.length) = true := by simp only [bne_iff_ne, ne_eq]; omega
    have e3 : (l0.length == l1.length) = false := by simp only [beq_eq_false_iff_ne, ne_eq]; omega
    clear H hl
    go_enter Try.func102, Try.ntmps102
    go_wp2
    go_ret
    exact ⟨by first | rfl | exact Kit.ret_bool hr.symm, Below.refl _ _⟩

/-! ### impl_SameShard: function 81 -/
def impl_SameShard.f (k : Nat) (a0_0 : Int) (a0_1 : Int) (l0_2 : List (S131)) (a0_3 : Int) (a1_0 : Int) (a1_1 : Int) (l1_2 : List (S131)) (a1_3 : Int) : Option (Bool) := if a0_0 = a1_0 then (if a0_1 = a1_1 then (if a0_3 = a1_3 then ((impl_Slot.f k l0_2 l1_2 ()).bind fun t294 => (some t294)) else (some false)) else (some false)) else (some false)
theorem impl_SameShard.mono : ∀ a0 a1 a2 a3 a4 a5 a6 a7 k, LeO (impl_SameShard.f k a0 a1 a2 a3 a4 a5 a6 a7) (impl_SameShard.f (k + 1) a0 a1 a2 a3 a4 a5 a6 a7) := by
  intro a0 a1 a2 a3 a4 a5 a6 a7 k
  unfold impl_SameShard.f
  repeat' first
      | (with_reducible exact impl_Slot.mono _ _ _ _)
      | (with_reducible exact LeO.refl _)
      | (with_reducible exact LeO.none _)
      | (with_reducible refine LeO.ite ?_ ?_)
      | (with_reducible refine LeO.bind ?_ (fun _ => ?_))
      | exact impl_Slot.mono _ _ _ _
      | exact LeO.none _
      | refine LeO.ite ?_ ?_
      | refine LeO.bind ?_ (fun _ => ?_)
set_option maxHeartbeats 8000000 in
set_option maxRecDepth 100000 in
theorem impl_SameShard.calls (k : Nat) (a0_0 : Int) (a0_1 : Int) (A0_2 : Option Addr) (c0_2 : Nat) (l0_2 : List (S131)) (a0_3 : Int) (a1_0 : Int) (a1_1 : Int) (A1_2 : Option Addr) (c1_2 : Nat) (l1_2 : List (S131)) (a1_3 : Int) (r : Bool) (w : World) (hr0_2 : Kd.C k131 w A0_2 l0_2.length l0_2) (hc0_2 : l0_2.length ≤ c0_2) (hr1_2 : Kd.C k131 w A1_2 l1_2.length l1_2) (hc1_2 : l1_2.length ≤ c1_2) (h : impl_SameShard.f k a0_0 a0_1 l0_2 a0_3 a1_0 a1_1 l1_2 a1_3 = some r) :
    Calls Try.prog 81 #[.agg #[.int .i64 a0_0, .int .i64 a0_1, .slice A0_2 l0_2.length c0_2, .int .i64 a0_3], .agg #[.int .i64 a1_0, .int .i64 a1_1, .slice A1_2 l1_2.length c1_2, .int .i64 a1_3]] w fun e w' => e = .returned (.bool r) ∧ Below w.heap.size w w' := by
  have hu97 := Try.underlying97
  have HR0_2 := Aside0.mk hr0_2
  have HC0_2 := Aside0.mk hc0_2
  clear hr0_2 hc0_2
  have HR1_2 := Aside0.mk hr1_2
  have HC1_2 := Aside0.mk hc1_2
  clear hr1_2 hc1_2
  have HB := Aside0.mk (Below.refl w.heap.size w)
  have H : (if a0_0 = a1_0 then (if a0_1 = a1_1 then (if a0_3 = a1_3 then ((impl_Slot.f k l0_2 l1_2 ()).bind fun t294 => (some t294)) else (some false)) else (some false)) else (some false)) = some r := h
  clear h
  by_cases c3 : a0_0 = a1_0
  · rw [if_pos c3] at H
    have c3b0 : (a0_0 == a1_0) = true := beq_iff_eq.mpr c3
    have c3b1 : (a0_0 != a1_0) = false := bne_eq_false_iff_eq.mpr c3
    clear c3
    by_cases c4 : a0_1 = a1_1
    · rw [if_pos c4] at H
      have c4b0 : (a0_1 == a1_1) = true := beq_iff_eq.mpr c4
      have c4b1 : (a0_1 != a1_1) = false := bne_eq_false_iff_eq.mpr c4
      clear c4
      by_cases c5 : a0_3 = a1_3
      · rw [if_pos c5] at H
        have c5b0 : (a0_3 == a1_3) = true := beq_iff_eq.mpr c5
        have c5b1 : (a0_3 != a1_3) = false := bne_eq_false_iff_eq.mpr c5
        clear c5
        replace H := Option.bind_eq_some_iff.mp H
        obtain ⟨t294, A60, H⟩ := H
        replace H : (some t294) = some r := H
        have A6 := Aside0.mk A60
        clear A60
        obtain rfl := Option.some.inj H
        go_enter Try.func81, Try.ntmps81
        go_wp2_with (first | ((with_reducible refine gate_dst (N := 2) rfl ?_); refine box_event ?hg (N := 2) ?hd (cs := #[.int .i64 a0_0, .int .i64 a0_1, .slice A0_2 l0_2.length c0_2, .int .i64 a0_3]) (t := 97) ?hr ?_; (case hd => rfl); (case hg => rfl); (case hr => exact Kit.hr); intro gb292 hg w7 hbox hb; have BK292 := Aside0.mk (hbox); have GW292 := Kit.gX (w := w) hg; have GE292 := GW292; replace HB := Kit.hB hb; clear hb hbox hg) | ((with_reducible refine gate_dst (N := 3) rfl ?_); refine box_event ?hg (N := 3) ?hd (cs := #[.int .i64 a1_0, .int .i64 a1_1, .slice A1_2 l1_2.length c1_2, .int .i64 a1_3]) (t := 97) ?hr ?_; (case hd => rfl); (case hg => rfl); (case hr => exact Kit.hr); intro gb293 hg w8 hbox hb; have BK293 := Aside0.mk (hbox); have GW293 := Kit.gX (w := w) hg; have GE293 := GW293; replace HB := Kit.hB hb; have NB292_293 := Aside0.mk (Kit.nlt hg BK292.out); have NB293_292 := Aside0.mk (Kit.ngt hg BK292.out); replace BK292 := Kit.bB BK292 hb; clear hb hbox hg; have hnb9 := NB292_293.out; have hnc9 := NB293_292.out; obtain ⟨hcz10_0, hcz10_1, hcz10_2, hcz10_3, hfz10_0, hfz10_1, hfz10_2, hfz10_3⟩ := Kit.c4 BK292.out; obtain ⟨hcz11_0, hcz11_1, hcz11_2, hcz11_3, hfz11_0, hfz11_1, hfz11_2, hfz11_3⟩ := Kit.c4 BK293.out) | (go_at_call 102; (with_reducible refine (impl_Slot.calls k _ _ l0_2 _ _ l1_2 () t294 _ ?side1 ?side2 ?side3 ?side4 A6.out).mono ?_); (case side1 => exact Kit.cr HR0_2.out HB.out); (case side2 => exact HC0_2.out); (case side3 => exact Kit.cr HR1_2.out HB.out); (case side4 => exact HC1_2.out); rintro e w12 ⟨rfl, hb⟩; replace BK292 := Kit.bB BK292 hb; replace BK293 := Kit.bB BK293 hb; replace HB := Kit.hB hb; (try clear hb); (try clear hb2); (try clear hk); (try clear hi)))
        go_ret
        exact ⟨Kit.er, Kit.bl⟩
      · rw [if_neg c5] at H
        have c5b0 : (a0_3 == a1_3) = false := beq_eq_false_iff_ne.mpr c5
        have c5b1 : (a0_3 != a1_3) = true := bne_iff_ne.mpr c5
        obtain rfl := Option.some.inj H
        go_enter Try.func81, Try.ntmps81
        go_wp2_with (first | ((with_reducible refine gate_dst (N := 2) rfl ?_); refine box_event ?hg (N := 2) ?hd (cs := #[.int .i64 a0_0, .int .i64 a0_1, .slice A0_2 l0_2.length c0_2, .int .i64 a0_3]) (t := 97) ?hr ?_; (case hd => rfl); (case hg => rfl); (case hr => exact Kit.hr); intro gb292 hg w13 hbox hb; have BK292 := Aside0.mk (hbox); have GW292 := Kit.gX (w := w) hg; have GE292 := GW292; replace HB := Kit.hB hb; clear hb hbox hg) | ((with_reducible refine gate_dst (N := 3) rfl ?_); refine box_event ?hg (N := 3) ?hd (cs := #[.int .i64 a1_0, .int .i64 a1_1, .slice A1_2 l1_2.length c1_2, .int .i64 a1_3]) (t := 97) ?hr ?_; (case hd => rfl); (case hg => rfl); (case hr => exact Kit.hr); intro gb293 hg w14 hbox hb; have BK293 := Aside0.mk (hbox); have GW293 := Kit.gX (w := w) hg; have GE293 := GW293; replace HB := Kit.hB hb; have NB292_293 := Aside0.mk (Kit.nlt hg BK292.out); have NB293_292 := Aside0.mk (Kit.ngt hg BK292.out); replace BK292 := Kit.bB BK292 hb; clear hb hbox hg; have hnb15 := NB292_293.out; have hnc15 := NB293_292.out; obtain ⟨hcz16_0, hcz16_1, hcz16_2, hcz16_3, hfz16_0, hfz16_1, hfz16_2, hfz16_3⟩ := Kit.c4 BK292.out; obtain ⟨hcz17_0, hcz17_1, hcz17_2, hcz17_3, hfz17_0, hfz17_1, hfz17_2, hfz17_3⟩ := Kit.c4 BK293.out))
        go_ret
        exact ⟨Kit.er, Kit.bl⟩
    · rw [if_neg c4] at H
      have c4b0 : (a0_1 == a1_1) = false := beq_eq_false_iff_ne.mpr c4
      have c4b1 : (a0_1 != a1_1) = true := bne_iff_ne.mpr c4
      obtain rfl := Option.some.inj H
      go_enter Try.func81, Try.ntmps81
      go_wp2_with (first | ((with_reducible refine gate_dst (N := 2) rfl ?_); refine box_event ?hg (N := 2) ?hd (cs := #[.int .i64 a0_0, .int .i64 a0_1, .slice A0_2 l0_2.length c0_2, .int .i64 a0_3]) (t := 97) ?hr ?_; (case hd => rfl); (case hg => rfl); (case hr => exact Kit.hr); intro gb292 hg w18 hbox hb; have BK292 := Aside0.mk (hbox); have GW292 := Kit.gX (w := w) hg; have GE292 := GW292; replace HB := Kit.hB hb; clear hb hbox hg) | ((with_reducible refine gate_dst (N := 3) rfl ?_); refine box_event ?hg (N := 3) ?hd (cs := #[.int .i64 a1_0, .int .i64 a1_1, .slice A1_2 l1_2.length c1_2, .int .i64 a1_3]) (t := 97) ?hr ?_; (case hd => rfl); (case hg => rfl); (case hr => exact Kit.hr); intro gb293 hg w19 hbox hb; have BK293 := Aside0.mk (hbox); have GW293 := Kit.gX (w := w) hg; have GE293 := GW293; replace HB := Kit.hB hb; have NB292_293 := Aside0.mk (Kit.nlt hg BK292.out); have NB293_292 := Aside0.mk (Kit.ngt hg BK292.out); replace BK292 := Kit.bB BK292 hb; clear hb hbox hg; have hnb20 := NB292_293.out; have hnc20 := NB293_292.out; obtain ⟨hcz21_0, hcz21_1, hcz21_2, hcz21_3, hfz21_0, hfz21_1, hfz21_2, hfz21_3⟩ := Kit.c4 BK292.out; obtain ⟨hcz22_0, hcz22_1, hcz22_2, hcz22_3, hfz22_0, hfz22_1, hfz22_2, hfz22_3⟩ := Kit.c4 BK293.out))
      go_ret
      exact ⟨Kit.er, Kit.bl⟩
  · rw [if_neg c3] at H
    have c3b0 : (a0_0 == a1_0) = false := beq_eq_false_iff_ne.mpr c3
    have c3b1 : (a0_0 != a1_0) = true := bne_iff_ne.mpr c3
    obtain rfl := Option.some.inj H
    go_enter Try.func81, Try.ntmps81
    go_wp2_with (first | ((with_reducible refine gate_dst (N := 2) rfl ?_); refine box_event ?hg (N := 2) ?hd (cs := #[.int .i64 a0_0, .int .i64 a0_1, .slice A0_2 l0_2.length c0_2, .int .i64 a0_3]) (t := 97) ?hr ?_; (case hd => rfl); (case hg => rfl); (case hr => exact Kit.hr); intro gb292 hg w23 hbox hb; have BK292 := Aside0.mk (hbox); have GW292 := Kit.gX (w := w) hg; have GE292 := GW292; replace HB := Kit.hB hb; clear hb hbox hg) | ((with_reducible refine gate_dst (N := 3) rfl ?_); refine box_event ?hg (N := 3) ?hd (cs := #[.int .i64 a1_0, .int .i64 a1_1, .slice A1_2 l1_2.length c1_2, .int .i64 a1_3]) (t := 97) ?hr ?_; (case hd => rfl); (case hg => rfl); (case hr => exact Kit.hr); intro gb293 hg w24 hbox hb; have BK293 := Aside0.mk (hbox); have GW293 := Kit.gX (w := w) hg; have GE293 := GW293; replace HB := Kit.hB hb; have NB292_293 := Aside0.mk (Kit.nlt hg BK292.out); have NB293_292 := Aside0.mk (Kit.ngt hg BK292.out); replace BK292 := Kit.bB BK292 hb; clear hb hbox hg; have hnb25 := NB292_293.out; have hnc25 := NB293_292.out; obtain ⟨hcz26_0, hcz26_1, hcz26_2, hcz26_3, hfz26_0, hfz26_1, hfz26_2, hfz26_3⟩ := Kit.c4 BK292.out; obtain ⟨hcz27_0, hcz27_1, hcz27_2, hcz27_3, hfz27_0, hfz27_1, hfz27_2, hfz27_3⟩ := Kit.c4 BK293.out))
    go_ret
    exact ⟨Kit.er, Kit.bl⟩

/-! ### impl_Shard: function 80, at the function value 81, its own contract -/
def impl_Shard.f (k : Nat) (l0 l1 : List S97) (_ : Unit) : Option Bool := Kit.eqBy (fun x y => impl_SameShard.f k x.f0 x.f1 x.f2 x.f3 y.f0 y.f1 y.f2 y.f3) l0 l1
theorem impl_Shard.mono : ∀ a0 a1 a2 k, LeO (impl_Shard.f k a0 a1 a2) (impl_Shard.f (k + 1) a0 a1 a2) := fun a0 a1 _ k => Kit.eqBy_mono (fun x y => impl_SameShard.mono _ _ _ _ _ _ _ _ k) a0 a1
set_option maxHeartbeats 8000000 in
set_option maxRecDepth 100000 in
theorem impl_Shard.calls (k : Nat) (A0 : Option Addr) (c0 : Nat) (l0 : List S97) (A1 : Option Addr) (c1 : Nat) (l1 : List S97) (a2 : Unit) (r : Bool) (w : World) (hr0 : Kd.C k97 w A0 l0.length l0) (hc0 : l0.length ≤ c0) (hr1 : Kd.C k97 w A1 l1.length l1) (hc1 : l1.length ≤ c1) (h : impl_Shard.f k l0 l1 a2 = some r) :
    Calls Try.prog 80 #[.slice A0 l0.length c0, .slice A1 l1.length c1, .func (.func 81) #[] #[]] w fun e w' => e = .returned (.bool r) ∧ Below w.heap.size w w' := by
  have hu := Try.underlying97
  have eg := enters_of Try.func81 (by kernel_rfl) rfl
  have HR0 := Aside0.mk hr0
  have HR1 := Aside0.mk hr1
  have HM := Aside0.mk hr0.2.1
  have HP : Aside0 (∀ (W : World) (x y : S97) (cs ds : List Value) (t : Bool), Below w.heap.size w W → Kd.K k97 W x cs → Kd.K k97 W y ds → impl_SameShard.f k x.f0 x.f1 x.f2 x.f3 y.f0 y.f1 y.f2 y.f3 = some t → Calls Try.prog 81 #[.agg cs.toArray, .agg ds.toArray] W fun e w' => e = .returned (.bool t) ∧ Below W.heap.size W w') := ⟨by
    intro W x y cs ds t hb hx hy ht
    obtain ⟨A7_2, c7_2, rfl, l7_2, g7_2⟩ := k97_open hx
    obtain ⟨A8_2, c8_2, rfl, l8_2, g8_2⟩ := k97_open hy
    refine (impl_SameShard.calls k x.f0 x.f1 A7_2 c7_2 x.f2 x.f3 y.f0 y.f1 A8_2 c8_2 y.f2 y.f3 t W g7_2 l7_2 g8_2 l8_2 ht).mono ?_
    rintro e w' ⟨rfl, hd⟩
    exact ⟨rfl, hd⟩⟩
  have H : Kit.eqBy (fun x y => impl_SameShard.f k x.f0 x.f1 x.f2 x.f3 y.f0 y.f1 y.f2 y.f3) l0 l1 = some r := h
  clear hr0 hr1 h
  by_cases hl : l0.length = l1.length
  · have HA := Aside0.mk ((Kit.eqBy_same _ hl).symm.trans H)
    have HL := Aside0.mk hl
    have e1 : ((l0.length : Int) != (l1.length : Int)) = false := by simp [hl]
    have e2 : (l0.length != l1.length) = false := by simp [hl]
    have e3 : (l0.length == l1.length) = true := by simp [hl]
    clear H hl
    go_enter Try.func80, Try.ntmps80
    go_wp2
    go_loopg [7, 8, 9, 17] l0.length (fun gg v7 v8 v9 v17 wr => ∃ i : Int, v17 = .int .i64 i ∧ Aside0 (0 ≤ i ∧ i ≤ (l0.length : Int)) ∧ Aside0 ((l0.length : Int) - i ≤ (gg : Int)) ∧ Aside0 (Below w.heap.size w wr) ∧ Aside0 (Kit.eqAll (fun x y => impl_SameShard.f k x.f0 x.f1 x.f2 x.f3 y.f0 y.f1 y.f2 y.f3) (l0.drop i.toNat) (l1.drop i.toNat) = some r))
    case atStart => exact ⟨0, rfl, ⟨by omega⟩, ⟨by omega⟩, ⟨Below.refl _ _⟩, ⟨HA.out⟩⟩
    case round =>
    clear HA e1 e2 e3
    obtain ⟨i, rfl, HI, HG, HB, HA⟩ := hrel
    have p5 : 0 ≤ i := HI.out.1
    by_cases q5 : i < (l0.length : Int)
    · have c5 : decide (i < (l0.length : Int)) = true := decide_eq_true q5
      have q6 : i < (l1.length : Int) := by have := HL.out; omega
      have p6 := p5
      obtain ⟨ad5, A5_2, c5_2, e5, hx5_0, hx5_1, hx5_2, hx5_3, hl5_2, hi5_2⟩ := at_T97 HR0.out i p5 q5
      cases e5
      replace hx5_0 := (HB.out.cell (World.block_lt_of_cell? w _ hx5_0)).trans hx5_0
      replace hx5_1 := (HB.out.cell (World.block_lt_of_cell? w _ hx5_1)).trans hx5_1
      replace hx5_2 := (HB.out.cell (World.block_lt_of_cell? w _ hx5_2)).trans hx5_2
      replace hx5_3 := (HB.out.cell (World.block_lt_of_cell? w _ hx5_3)).trans hx5_3
      have E5 := Aside0.mk (k97_mk _ (rd_T97 l0 i) hl5_2 (Kd.C_below hi5_2 HB.out))
      clear hl5_2 hi5_2
      obtain ⟨ad6, A6_2, c6_2, e6, hx6_0, hx6_1, hx6_2, hx6_3, hl6_2, hi6_2⟩ := at_T97 HR1.out i p6 q6
      cases e6
      replace hx6_0 := (HB.out.cell (World.block_lt_of_cell? w _ hx6_0)).trans hx6_0
      replace hx6_1 := (HB.out.cell (World.block_lt_of_cell? w _ hx6_1)).trans hx6_1
      replace hx6_2 := (HB.out.cell (World.block_lt_of_cell? w _ hx6_2)).trans hx6_2
      replace hx6_3 := (HB.out.cell (World.block_lt_of_cell? w _ hx6_3)).trans hx6_3
      have E6 := Aside0.mk (k97_mk _ (rd_T97 l1 i) hl6_2 (Kd.C_below hi6_2 HB.out))
      clear hl6_2 hi6_2
      obtain ⟨t, ht, HT⟩ := Kit.eqAll_step (fun x y => impl_SameShard.f k x.f0 x.f1 x.f2 x.f3 y.f0 y.f1 y.f2 y.f3) l0 l1 z97 i p5 q5 q6 HA.out
      have hcall : ∀ W : World, Below wr.heap.size wr W → _ := fun W hW => HP.out W (rd_T97 l0 i) (rd_T97 l1 i) _ _ t (Kit.below_trans HB.out hW) ((k97).K_below hW E5.out) ((k97).K_below hW E6.out) ht
      have HC := Aside0.mk hcall
      have HT' := Aside0.mk HT
      clear hcall HT ht E5 E6 HP HR0 HR1
      replace p5 := eq_true p5
      replace q5 := eq_true q5
      replace q6 := eq_true q6
      clear p6
      have HW0 : Below wr.heap.size wr wr := Below.refl _ _
      cases t with
      | true =>
        rw [if_pos rfl] at HT'
        go_wp2_with (first
          | ((with_reducible refine gate_dst (N := 25) rfl ?_); refine Kit.atAlloc ?_; intro w1 hb hbox; replace hx6_0 := Kit.hx hb hx6_0; replace hx6_1 := Kit.hx hb hx6_1; replace hx6_2 := Kit.hx hb hx6_2; replace hx6_3 := Kit.hx hb hx6_3; replace HW0 := Kit.below_trans HW0 hb; obtain ⟨hz5_0, hz5_1, hz5_2, hz5_3, hy5_0, hy5_1, hy5_2, hy5_3⟩ := Kit.c4 hbox; clear hb hbox)
          | ((with_reducible refine gate_dst (N := 27) rfl ?_); refine Kit.atAlloc ?_; intro w2 hb hbox; replace hz5_0 := Kit.hx hb hz5_0; replace hz5_1 := Kit.hx hb hz5_1; replace hz5_2 := Kit.hx hb hz5_2; replace hz5_3 := Kit.hx hb hz5_3; replace HW0 := Kit.below_trans HW0 hb; obtain ⟨hz6_0, hz6_1, hz6_2, hz6_3, hy6_0, hy6_1, hy6_2, hy6_3⟩ := Kit.c4 hbox; clear hb hbox)
          | (go_at_call 81; refine (HC.out _ HW0).mono ?_; rintro e w' ⟨rfl, hb'⟩))
        go_roundg (gk - 1)
        case measure => have := HG.out; have := of_eq_true q5; omega
        case rel =>
          have hw : wrap64 (i + 1) = i + 1 := by have := HI.out; have := HM.out; have := of_eq_true q5; unfold wrap64; omega
          refine ⟨wrap64 (i + 1), rfl, ⟨by have := HI.out; have := of_eq_true q5; omega⟩, ⟨by have := HG.out; have := of_eq_true q5; omega⟩, ⟨Kit.below_trans HB.out (Kit.below_trans HW0 hb')⟩, ⟨?_⟩⟩
          rw [hw, show (i + 1).toNat = i.toNat + 1 by have := HI.out; omega]
          exact HT'.out
      | false =>
        have hr : r = false := HT'.out
        go_wp2_with (first
          | ((with_reducible refine gate_dst (N := 25) rfl ?_); refine Kit.atAlloc ?_; intro w1 hb hbox; replace hx6_0 := Kit.hx hb hx6_0; replace hx6_1 := Kit.hx hb hx6_1; replace hx6_2 := Kit.hx hb hx6_2; replace hx6_3 := Kit.hx hb hx6_3; replace HW0 := Kit.below_trans HW0 hb; obtain ⟨hz5_0, hz5_1, hz5_2, hz5_3, hy5_0, hy5_1, hy5_2, hy5_3⟩ := Kit.c4 hbox; clear hb hbox)
          | ((with_reducible refine gate_dst (N := 27) rfl ?_); refine Kit.atAlloc ?_; intro w2 hb hbox; replace hz5_0 := Kit.hx hb hz5_0; replace hz5_1 := Kit.hx hb hz5_1; replace hz5_2 := Kit.hx hb hz5_2; replace hz5_3 := Kit.hx hb hz5_3; replace HW0 := Kit.below_trans HW0 hb; obtain ⟨hz6_0, hz6_1, hz6_2, hz6_3, hy6_0, hy6_1, hy6_2, hy6_3⟩ := Kit.c4 hbox; clear hb hbox)
          | (go_at_call 81; refine (HC.out _ HW0).mono ?_; rintro e w' ⟨rfl, hb'⟩))
        go_ret
        exact ⟨by first | rfl | exact Kit.ret_bool hr.symm, Kit.below_trans HB.out (Kit.below_trans HW0 hb')⟩
    · have c5 : decide (i < (l0.length : Int)) = false := decide_eq_false q5
      have hr : r = true := Kit.eqAll_end _ l0 l1 i p5 q5 (by have := HL.out; omega) HA.out
      go_wp2
      go_ret
      exact ⟨by first | rfl | exact Kit.ret_bool hr.symm, HB.out⟩
  · have hr : r = false := Kit.eqBy_other _ hl H
    have e1 : ((l0.length : Int) != (l1.length : Int)) = true := by simp only [bne_iff_ne, ne_eq]; omega
    have e2 : (l0.length != l1.length) = true := by simp only [bne_iff_ne, ne_eq]; omega
    have e3 : (l0.length == l1.length) = false := by simp only [beq_eq_false_iff_ne, ne_eq]; omega
    clear H hl
    go_enter Try.func80, Try.ntmps80
    go_wp2
    go_ret
    exact ⟨by first | rfl | exact Kit.ret_bool hr.symm, Below.refl _ _⟩

end Go.Proofs.Ythbmemimpakljaa.QFnExactSameCache
