-- Written by own.py, a program of this session's own, which calls the kit's print. Lean checks it.
import Derived.Test.YthbmemimpakljaaQFnExactSameCachex0
import Derived.Test.YthbmemimpakljaaQFnExactSameCachex2
import Derived.Test.YthbmemimpakljaaQFnExactSameCachex11
namespace Go.Proofs.Ythbmemimpakljaa.QFnExactSameCache
open Go.RowKit Go.Proofs.YthbmemimpakljaaW.PrintWords Go.Proofs.YthbmemimpakljaaW.PrintLast
attribute [local go_sem] Kit.run_store_one   -- for this text's walks alone
set_option linter.unusedVariables false
set_option linter.unusedSimpArgs false

attribute [local go_sem high] eqA89
/-! ### impl_GenRow: function 82 -/
def impl_GenRow.l0 : Nat → List (S89) → List (S89) → Int → Int → Option (Bool)
  | 0, _, _, _, _ => none
  | k + 1, x0, x1, x12, x13 => if x13 < x12 then (if 0 ≤ x13 then (if x13 < (x0.length : Int) then (if x13 < (x1.length : Int) then (if (!((((rd_T89 x0 x13).f0).toList) == (((rd_T89 x1 x13).f0).toList)) || (!(((rd_T89 x0 x13).f1) == ((rd_T89 x1 x13).f1)))) = true then (some false) else (impl_GenRow.l0 k x0 x1 x12 (wrap64 (x13 + 1)))) else (none)) else (none)) else (none)) else (some true)
def impl_GenRow.f (k : Nat) (l0 : List (S89)) (l1 : List (S89)) : Option (Bool) := if (l0.length : Int) = (l1.length : Int) then (impl_GenRow.l0 k l0 l1 (l0.length : Int) 0) else (some false)
theorem impl_GenRow.mono_l : ∀ k, (∀ y0 y1 y2 y3, LeO (impl_GenRow.l0 k y0 y1 y2 y3) (impl_GenRow.l0 (k + 1) y0 y1 y2 y3))
  | 0 => fun _ _ _ _ r h => by simp [impl_GenRow.l0] at h
  | k + 1 => by
    have ih0 := impl_GenRow.mono_l k
    · intro y0 y1 y2 y3
      unfold impl_GenRow.l0
      repeat' first
      | (with_reducible exact ih0 _ _ _ _)
      | (with_reducible exact LeO.refl _)
      | (with_reducible exact LeO.none _)
      | (with_reducible refine LeO.ite ?_ ?_)
      | (with_reducible refine LeO.bind ?_ (fun _ => ?_))
      | exact ih0 _ _ _ _
      | exact LeO.none _
      | refine LeO.ite ?_ ?_
      | refine LeO.bind ?_ (fun _ => ?_)
theorem impl_GenRow.mono : ∀ a0 a1 k, LeO (impl_GenRow.f k a0 a1) (impl_GenRow.f (k + 1) a0 a1) := by
  intro a0 a1 k
  have ih0 := impl_GenRow.mono_l k
  unfold impl_GenRow.f
  repeat' first
      | (with_reducible exact ih0 _ _ _ _)
      | (with_reducible exact LeO.refl _)
      | (with_reducible exact LeO.none _)
      | (with_reducible refine LeO.ite ?_ ?_)
      | (with_reducible refine LeO.bind ?_ (fun _ => ?_))
      | exact ih0 _ _ _ _
      | exact LeO.none _
      | refine LeO.ite ?_ ?_
      | refine LeO.bind ?_ (fun _ => ?_)
set_option maxHeartbeats 8000000 in
set_option maxRecDepth 100000 in
theorem impl_GenRow.calls (k : Nat) (A0 : Option Addr) (c0 : Nat) (l0 : List (S89)) (A1 : Option Addr) (c1 : Nat) (l1 : List (S89)) (r : Bool) (w : World) (hr0 : Kd.C k89 w A0 l0.length l0) (hc0 : l0.length ≤ c0) (hr1 : Kd.C k89 w A1 l1.length l1) (hc1 : l1.length ≤ c1) (h : impl_GenRow.f k l0 l1 = some r) :
    Calls Try.prog 82 #[.slice A0 l0.length c0, .slice A1 l1.length c1] w fun e w' => e = .returned (.bool r) ∧ Drawn0 w w' := by
  have hu89 := Try.underlying89
  have HR0 := Aside0.mk hr0
  have HC0 := Aside0.mk hc0
  clear hr0 hc0
  have HR1 := Aside0.mk hr1
  have HC1 := Aside0.mk hc1
  clear hr1 hc1
  have H : (if (l0.length : Int) = (l1.length : Int) then (impl_GenRow.l0 k l0 l1 (l0.length : Int) 0) else (some false)) = some r := h
  clear h
  by_cases c3 : (l0.length : Int) = (l1.length : Int)
  · rw [if_pos c3] at H
    have c3b0 : ((l0.length : Int) == (l1.length : Int)) = true := beq_iff_eq.mpr c3
    have c3b1 : ((l0.length : Int) != (l1.length : Int)) = false := bne_eq_false_iff_eq.mpr c3
    have c3b2 : (l0.length == l1.length) = true := by first | simpa using c3 | (simp at c3 ⊢; omega)
    clear c3
    have H' := Aside0.mk H
    clear H
    go_enter Try.func82, Try.ntmps82
    go_wp2
    repeat (go_quiet (fail); try go_wp2)
    go_loopg [13] k (fun kq v13 w' => ∃ (x13_1 : Int), v13 = .int .i64 x13_1 ∧ Aside0 (impl_GenRow.l0 kq l0 l1 (l0.length : Int) x13_1 = some r) ∧ Aside0 (kq ≤ k) ∧ Drawn0 w w')
    case atStart => exact ⟨(0), (by first | rfl | (simp; done) | (simp [*]; done)), H', ⟨Nat.le_refl _⟩, by repeat (first | exact Drawn0.refl _ | apply Drawn0.step)⟩
    case round =>
      clear H'
      try clear c1
      try clear p2
      try clear c3
      try clear c3b0
      try clear c3b1
      try clear c3b2
      obtain ⟨x13_1, rfl, HA, HK1, ⟨m1, rfl⟩⟩ := hrel
      cases gk with
      | zero => exact absurd HA.out (by simp [impl_GenRow.l0])
      | succ k1 =>
        have H := HA.out
        clear HA
        simp only [impl_GenRow.l0] at H
        by_cases c4 : x13_1 < (l0.length : Int)
        · rw [if_pos c4] at H
          have c4b0 : decide (x13_1 < (l0.length : Int)) = true := decide_eq_true c4
          clear c4
          by_cases c5 : 0 ≤ x13_1
          · rw [if_pos c5] at H
            have c5b0 : decide (0 ≤ x13_1) = true := decide_eq_true c5
            clear c5
            by_cases c6 : x13_1 < (l0.length : Int)
            · rw [if_pos c6] at H
              have c6b0 : decide (x13_1 < (l0.length : Int)) = true := decide_eq_true c6
              clear c6
              by_cases c7 : x13_1 < (l1.length : Int)
              · rw [if_pos c7] at H
                have c7b0 : decide (x13_1 < (l1.length : Int)) = true := decide_eq_true c7
                clear c7
                by_cases c8 : (!((((rd_T89 l0 x13_1).f0).toList) == (((rd_T89 l1 x13_1).f0).toList)) || (!(((rd_T89 l0 x13_1).f1) == ((rd_T89 l1 x13_1).f1)))) = true
                · rw [if_pos c8] at H
                  have c8b0 : (!((((rd_T89 l0 x13_1).f0).toList) == (((rd_T89 l1 x13_1).f0).toList)) || (!(((rd_T89 l0 x13_1).f1) == ((rd_T89 l1 x13_1).f1)))) = true := c8
                  clear c8
                  obtain rfl := Option.some.inj H
                  have p295 : 0 ≤ (x13_1 : Int) := of_decide_eq_true Kit.asm
                  have q295 : x13_1 < (l0.length : Int) := of_decide_eq_true Kit.asm
                  obtain ⟨ad295, e295, hx295_0, hx295_1⟩ := at_T89 HR0.out x13_1 p295 q295
                  cases e295
                  replace p295 := eq_true p295
                  replace q295 := eq_true q295
                  have p296 : 0 ≤ (x13_1 : Int) := of_decide_eq_true Kit.asm
                  have q296 : x13_1 < (l1.length : Int) := of_decide_eq_true Kit.asm
                  obtain ⟨ad296, e296, hx296_0, hx296_1⟩ := at_T89 HR1.out x13_1 p296 q296
                  cases e296
                  replace p296 := eq_true p296
                  replace q296 := eq_true q296
                  go_wp2
                  repeat (go_quiet (fail); try go_wp2)
                  go_ret
                  exact ⟨by first | rfl | (simp; done) | (simp [*]; done), by repeat (first | exact Drawn0.refl _ | apply Drawn0.step)⟩
                · rw [if_neg c8] at H
                  have c8b0 : (!((((rd_T89 l0 x13_1).f0).toList) == (((rd_T89 l1 x13_1).f0).toList)) || (!(((rd_T89 l0 x13_1).f1) == ((rd_T89 l1 x13_1).f1)))) = false := by simpa using c8
                  clear c8
                  have H' := Aside0.mk H
                  clear H
                  have p295 : 0 ≤ (x13_1 : Int) := of_decide_eq_true Kit.asm
                  have q295 : x13_1 < (l0.length : Int) := of_decide_eq_true Kit.asm
                  obtain ⟨ad295, e295, hx295_0, hx295_1⟩ := at_T89 HR0.out x13_1 p295 q295
                  cases e295
                  replace p295 := eq_true p295
                  replace q295 := eq_true q295
                  have p296 : 0 ≤ (x13_1 : Int) := of_decide_eq_true Kit.asm
                  have q296 : x13_1 < (l1.length : Int) := of_decide_eq_true Kit.asm
                  obtain ⟨ad296, e296, hx296_0, hx296_1⟩ := at_T89 HR1.out x13_1 p296 q296
                  cases e296
                  replace p296 := eq_true p296
                  replace q296 := eq_true q296
                  go_wp2
                  repeat (go_quiet (fail); try go_wp2)
                  go_roundg k1
                  case measure => have := HK1.out; omega
                  case rel => exact ⟨(wrap64 (x13_1 + 1)), (by first | rfl | (simp; done) | (simp [*]; done)), H', ⟨by have := HK1.out; omega⟩, by repeat (first | exact Drawn0.refl _ | apply Drawn0.step)⟩
              · rw [if_neg c7] at H
                exact absurd H (by simp)
            · rw [if_neg c6] at H
              exact absurd H (by simp)
          · rw [if_neg c5] at H
            exact absurd H (by simp)
        · rw [if_neg c4] at H
          have c4b0 : decide (x13_1 < (l0.length : Int)) = false := decide_eq_false c4
          clear c4
          obtain rfl := Option.some.inj H
          go_wp2
          repeat (go_quiet (fail); try go_wp2)
          go_ret
          exact ⟨by first | rfl | (simp; done) | (simp [*]; done), by repeat (first | exact Drawn0.refl _ | apply Drawn0.step)⟩
  · rw [if_neg c3] at H
    have c3b0 : ((l0.length : Int) == (l1.length : Int)) = false := beq_eq_false_iff_ne.mpr c3
    have c3b1 : ((l0.length : Int) != (l1.length : Int)) = true := bne_iff_ne.mpr c3
    have c3b2 : (l0.length == l1.length) = false := by first | simpa using c3 | (simp at c3 ⊢; omega)
    obtain rfl := Option.some.inj H
    go_enter Try.func82, Try.ntmps82
    go_wp2
    repeat (go_quiet (fail); try go_wp2)
    go_ret
    exact ⟨by first | rfl | (simp; done) | (simp [*]; done), by repeat (first | exact Drawn0.refl _ | apply Drawn0.step)⟩

/-! ### impl_SameCache: function 41 -/
def impl_SameCache.f (k : Nat) (l0_0 : List (S97)) (l0_1 : List (S89)) (l1_0 : List (S97)) (l1_1 : List (S89)) : Option (Bool) := (impl_Shard.f k l0_0 l1_0 ()).bind fun t299 => (if t299 = true then ((impl_GenRow.f k l0_1 l1_1).bind fun t300 => (some t300)) else (some false))
theorem impl_SameCache.mono : ∀ a0 a1 a2 a3 k, LeO (impl_SameCache.f k a0 a1 a2 a3) (impl_SameCache.f (k + 1) a0 a1 a2 a3) := by
  intro a0 a1 a2 a3 k
  unfold impl_SameCache.f
  repeat' first
      | (with_reducible exact impl_GenRow.mono _ _ _)
      | (with_reducible exact impl_Shard.mono _ _ _ _)
      | (with_reducible exact LeO.refl _)
      | (with_reducible exact LeO.none _)
      | (with_reducible refine LeO.ite ?_ ?_)
      | (with_reducible refine LeO.bind ?_ (fun _ => ?_))
      | exact impl_GenRow.mono _ _ _
      | exact impl_Shard.mono _ _ _ _
      | exact LeO.none _
      | refine LeO.ite ?_ ?_
      | refine LeO.bind ?_ (fun _ => ?_)
set_option maxHeartbeats 8000000 in
set_option maxRecDepth 100000 in
theorem impl_SameCache.calls (k : Nat) (A0_0 : Option Addr) (c0_0 : Nat) (l0_0 : List (S97)) (A0_1 : Option Addr) (c0_1 : Nat) (l0_1 : List (S89)) (A1_0 : Option Addr) (c1_0 : Nat) (l1_0 : List (S97)) (A1_1 : Option Addr) (c1_1 : Nat) (l1_1 : List (S89)) (r : Bool) (w : World) (hr0_0 : Kd.C k97 w A0_0 l0_0.length l0_0) (hc0_0 : l0_0.length ≤ c0_0) (hr0_1 : Kd.C k89 w A0_1 l0_1.length l0_1) (hc0_1 : l0_1.length ≤ c0_1) (hr1_0 : Kd.C k97 w A1_0 l1_0.length l1_0) (hc1_0 : l1_0.length ≤ c1_0) (hr1_1 : Kd.C k89 w A1_1 l1_1.length l1_1) (hc1_1 : l1_1.length ≤ c1_1) (h : impl_SameCache.f k l0_0 l0_1 l1_0 l1_1 = some r) :
    Calls Try.prog 41 #[.agg #[.slice A0_0 l0_0.length c0_0, .slice A0_1 l0_1.length c0_1], .agg #[.slice A1_0 l1_0.length c1_0, .slice A1_1 l1_1.length c1_1]] w fun e w' => e = .returned (.bool r) ∧ Below w.heap.size w w' := by
  have hu62 := Try.underlying62
  have HR0_0 := Aside0.mk hr0_0
  have HC0_0 := Aside0.mk hc0_0
  clear hr0_0 hc0_0
  have HR0_1 := Aside0.mk hr0_1
  have HC0_1 := Aside0.mk hc0_1
  clear hr0_1 hc0_1
  have HR1_0 := Aside0.mk hr1_0
  have HC1_0 := Aside0.mk hc1_0
  clear hr1_0 hc1_0
  have HR1_1 := Aside0.mk hr1_1
  have HC1_1 := Aside0.mk hc1_1
  clear hr1_1 hc1_1
  have HB := Aside0.mk (Below.refl w.heap.size w)
  have H : ((impl_Shard.f k l0_0 l1_0 ()).bind fun t299 => (if t299 = true then ((impl_GenRow.f k l0_1 l1_1).bind fun t300 => (some t300)) else (some false))) = some r := h
  clear h
  replace H := Option.bind_eq_some_iff.mp H
  obtain ⟨t299, A30, H⟩ := H
  replace H : (if t299 = true then ((impl_GenRow.f k l0_1 l1_1).bind fun t300 => (some t300)) else (some false)) = some r := H
  have A3 := Aside0.mk A30
  clear A30
  by_cases c4 : t299 = true
  · subst c4
    have H1 : ((impl_GenRow.f k l0_1 l1_1).bind fun t300 => (some t300)) = some r := by rw [if_pos rfl] at H; exact H
    clear H
    have H := H1
    clear H1
    replace H := Option.bind_eq_some_iff.mp H
    obtain ⟨t300, A50, H⟩ := H
    replace H : (some t300) = some r := H
    have A5 := Aside0.mk A50
    clear A50
    obtain rfl := Option.some.inj H
    go_enter Try.func41, Try.ntmps41
    go_wp2_with (first | ((with_reducible refine gate_dst (N := 2) rfl ?_); refine box_event ?hg (N := 2) ?hd (cs := #[.slice A0_0 l0_0.length c0_0, .slice A0_1 l0_1.length c0_1]) (t := 62) ?hr ?_; (case hd => rfl); (case hg => rfl); (case hr => exact Kit.hr); intro gb297 hg w6 hbox hb; have BK297 := Aside0.mk (hbox); have GW297 := Kit.gX (w := w) hg; have GE297 := GW297; replace HB := Kit.hB hb; clear hb hbox hg) | ((with_reducible refine gate_dst (N := 3) rfl ?_); refine box_event ?hg (N := 3) ?hd (cs := #[.slice A1_0 l1_0.length c1_0, .slice A1_1 l1_1.length c1_1]) (t := 62) ?hr ?_; (case hd => rfl); (case hg => rfl); (case hr => exact Kit.hr); intro gb298 hg w7 hbox hb; have BK298 := Aside0.mk (hbox); have GW298 := Kit.gX (w := w) hg; have GE298 := GW298; replace HB := Kit.hB hb; have NB297_298 := Aside0.mk (Kit.nlt hg BK297.out); have NB298_297 := Aside0.mk (Kit.ngt hg BK297.out); replace BK297 := Kit.bB BK297 hb; clear hb hbox hg; have hnb8 := NB297_298.out; have hnc8 := NB298_297.out; obtain ⟨hcz9_0, hcz9_1, hfz9_0, hfz9_1⟩ := Kit.c2 BK297.out; obtain ⟨hcz10_0, hcz10_1, hfz10_0, hfz10_1⟩ := Kit.c2 BK298.out) | ((with_reducible refine Kit.gate_callee (f := 80) rfl ?_); refine goesL_ (some 9) rfl rfl Try.func80 (by kernel_rfl) rfl #[.slice A0_0 l0_0.length c0_0, .slice A1_0 l1_0.length c1_0, .func (.func 81) #[] #[]] rfl Kit.am ?_; (with_reducible refine (impl_Shard.calls k _ _ l0_0 _ _ l1_0 () true _ ?side1 ?side2 ?side3 ?side4 A3.out).mono ?_); (case side1 => exact Kit.cr HR0_0.out HB.out); (case side2 => exact HC0_0.out); (case side3 => exact Kit.cr HR1_0.out HB.out); (case side4 => exact HC1_0.out); rintro e w11 ⟨rfl, hb⟩; refine ⟨_, rfl, ?_⟩; replace BK297 := Kit.bB BK297 hb; replace BK298 := Kit.bB BK298 hb; replace HB := Kit.hB hb; (try clear hb); (try clear hb2); (try clear hk); (try clear hi); obtain ⟨hcz12_0, hcz12_1, hfz12_0, hfz12_1⟩ := Kit.c2 BK297.out; obtain ⟨hcz13_0, hcz13_1, hfz13_0, hfz13_1⟩ := Kit.c2 BK298.out) | (go_at_call 82; (with_reducible refine (impl_GenRow.calls k _ _ l0_1 _ _ l1_1 t300 _ ?side1 ?side2 ?side3 ?side4 A5.out).mono ?_); (case side1 => exact Kit.cr HR0_1.out HB.out); (case side2 => exact HC0_1.out); (case side3 => exact Kit.cr HR1_1.out HB.out); (case side4 => exact HC1_1.out); rintro e w' ⟨rfl, ⟨nd, rfl⟩⟩))
    go_ret
    exact ⟨Kit.er, Kit.bl⟩
  · replace c4 := Bool.eq_false_iff.mpr c4
    subst c4
    have H1 : (some false) = some r := by rw [if_neg (show ¬ (false = true) by decide)] at H; exact H
    clear H
    have H := H1
    clear H1
    obtain rfl := Option.some.inj H
    go_enter Try.func41, Try.ntmps41
    go_wp2_with (first | ((with_reducible refine gate_dst (N := 2) rfl ?_); refine box_event ?hg (N := 2) ?hd (cs := #[.slice A0_0 l0_0.length c0_0, .slice A0_1 l0_1.length c0_1]) (t := 62) ?hr ?_; (case hd => rfl); (case hg => rfl); (case hr => exact Kit.hr); intro gb297 hg w14 hbox hb; have BK297 := Aside0.mk (hbox); have GW297 := Kit.gX (w := w) hg; have GE297 := GW297; replace HB := Kit.hB hb; clear hb hbox hg) | ((with_reducible refine gate_dst (N := 3) rfl ?_); refine box_event ?hg (N := 3) ?hd (cs := #[.slice A1_0 l1_0.length c1_0, .slice A1_1 l1_1.length c1_1]) (t := 62) ?hr ?_; (case hd => rfl); (case hg => rfl); (case hr => exact Kit.hr); intro gb298 hg w15 hbox hb; have BK298 := Aside0.mk (hbox); have GW298 := Kit.gX (w := w) hg; have GE298 := GW298; replace HB := Kit.hB hb; have NB297_298 := Aside0.mk (Kit.nlt hg BK297.out); have NB298_297 := Aside0.mk (Kit.ngt hg BK297.out); replace BK297 := Kit.bB BK297 hb; clear hb hbox hg; have hnb16 := NB297_298.out; have hnc16 := NB298_297.out; obtain ⟨hcz17_0, hcz17_1, hfz17_0, hfz17_1⟩ := Kit.c2 BK297.out; obtain ⟨hcz18_0, hcz18_1, hfz18_0, hfz18_1⟩ := Kit.c2 BK298.out) | ((with_reducible refine Kit.gate_callee (f := 80) rfl ?_); refine goesL_ (some 9) rfl rfl Try.func80 (by kernel_rfl) rfl #[.slice A0_0 l0_0.length c0_0, .slice A1_0 l1_0.length c1_0, .func (.func 81) #[] #[]] rfl Kit.am ?_; (with_reducible refine (impl_Shard.calls k _ _ l0_0 _ _ l1_0 () false _ ?side1 ?side2 ?side3 ?side4 A3.out).mono ?_); (case side1 => exact Kit.cr HR0_0.out HB.out); (case side2 => exact HC0_0.out); (case side3 => exact Kit.cr HR1_0.out HB.out); (case side4 => exact HC1_0.out); rintro e w19 ⟨rfl, hb⟩; refine ⟨_, rfl, ?_⟩; replace BK297 := Kit.bB BK297 hb; replace BK298 := Kit.bB BK298 hb; replace HB := Kit.hB hb; (try clear hb); (try clear hb2); (try clear hk); (try clear hi)))
    go_ret
    exact ⟨Kit.er, Kit.bl⟩

end Go.Proofs.Ythbmemimpakljaa.QFnExactSameCache
