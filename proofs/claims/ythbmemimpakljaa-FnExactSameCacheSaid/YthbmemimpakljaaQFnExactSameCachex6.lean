-- Written by own.py, a program of this session's own, which calls the kit's print. Lean checks it.
import Derived.Test.YthbmemimpakljaaQFnExactSameCachex0
import Derived.Test.YthbmemimpakljaaQFnExactSameCachex5
namespace Go.Proofs.Ythbmemimpakljaa.QFnExactSameCache
open Go.RowKit Go.Proofs.YthbmemimpakljaaW.PrintWords Go.Proofs.YthbmemimpakljaaW.PrintLast
attribute [local go_sem] Kit.run_store_one   -- for this text's walks alone
set_option linter.unusedVariables false
set_option linter.unusedSimpArgs false

/-! ### laws_eqSlotS: function 111 -/
def laws_eqSlotS.l0 : Nat → List (S131) → List (S131) → Int → Option (Bool)
  | 0, _, _, _ => none
  | k + 1, x0, x1, x5 => if x5 < (x0.length : Int) then (if 0 ≤ x5 then (if x5 < (x1.length : Int) then ((laws_eqSlot.f k ((rd_T131 x0 x5).f0.f0) ((rd_T131 x0 x5).f0.f1) ((rd_T131 x0 x5).f0.f2.f0) ((rd_T131 x0 x5).f0.f2.f1) ((rd_T131 x0 x5).f0.f2.f2) ((rd_T131 x0 x5).f0.f3) ((rd_T131 x0 x5).f0.f4) ((rd_T131 x0 x5).f1) ((rd_T131 x1 x5).f0.f0) ((rd_T131 x1 x5).f0.f1) ((rd_T131 x1 x5).f0.f2.f0) ((rd_T131 x1 x5).f0.f2.f1) ((rd_T131 x1 x5).f0.f2.f2) ((rd_T131 x1 x5).f0.f3) ((rd_T131 x1 x5).f0.f4) ((rd_T131 x1 x5).f1)).bind fun t234 => (if t234 = true then (laws_eqSlotS.l0 k x0 x1 (wrap64 (x5 + 1))) else (some false))) else (none)) else (none)) else (some true)
def laws_eqSlotS.f (k : Nat) (l0 : List (S131)) (l1 : List (S131)) : Option (Bool) := if (l0.length : Int) = (l1.length : Int) then (laws_eqSlotS.l0 k l0 l1 0) else (some false)
theorem laws_eqSlotS.mono_l : ∀ k, (∀ y0 y1 y2, LeO (laws_eqSlotS.l0 k y0 y1 y2) (laws_eqSlotS.l0 (k + 1) y0 y1 y2))
  | 0 => fun _ _ _ r h => by simp [laws_eqSlotS.l0] at h
  | k + 1 => by
    have ih0 := laws_eqSlotS.mono_l k
    · intro y0 y1 y2
      unfold laws_eqSlotS.l0
      repeat' first
      | (with_reducible exact ih0 _ _ _)
      | (with_reducible exact laws_eqSlot.mono _ _ _ _ _ _ _ _ _ _ _ _ _ _ _ _ _)
      | (with_reducible exact LeO.refl _)
      | (with_reducible exact LeO.none _)
      | (with_reducible refine LeO.ite ?_ ?_)
      | (with_reducible refine LeO.bind ?_ (fun _ => ?_))
      | exact ih0 _ _ _
      | exact laws_eqSlot.mono _ _ _ _ _ _ _ _ _ _ _ _ _ _ _ _ _
      | exact LeO.none _
      | refine LeO.ite ?_ ?_
      | refine LeO.bind ?_ (fun _ => ?_)
theorem laws_eqSlotS.mono : ∀ a0 a1 k, LeO (laws_eqSlotS.f k a0 a1) (laws_eqSlotS.f (k + 1) a0 a1) := by
  intro a0 a1 k
  have ih0 := laws_eqSlotS.mono_l k
  unfold laws_eqSlotS.f
  repeat' first
      | (with_reducible exact ih0 _ _ _)
      | (with_reducible exact laws_eqSlot.mono _ _ _ _ _ _ _ _ _ _ _ _ _ _ _ _ _)
      | (with_reducible exact LeO.refl _)
      | (with_reducible exact LeO.none _)
      | (with_reducible refine LeO.ite ?_ ?_)
      | (with_reducible refine LeO.bind ?_ (fun _ => ?_))
      | exact ih0 _ _ _
      | exact laws_eqSlot.mono _ _ _ _ _ _ _ _ _ _ _ _ _ _ _ _ _
      | exact LeO.none _
      | refine LeO.ite ?_ ?_
      | refine LeO.bind ?_ (fun _ => ?_)
def laws_eqSlotS.T6 : Bool × List (List Nat × List Nat) := (true, [([], []), ([], []), ([0, 1], [0, 1]), ([2], [2]), ([], []), ([], []), ([4, 5], [4, 5]), ([6], [6]), ([3, 7], [3, 7]), ([8], [8])])
def laws_eqSlotS.B6 : List Nat := [0, 0, 3, 7, 0, 0, 48, 112, 255, 511]
theorem laws_eqSlotS.tab6 : rtab .any (opsOf Try.f111 6) = laws_eqSlotS.T6 := by kernel_rfl
theorem laws_eqSlotS.bits6 : waitsOk laws_eqSlotS.T6.2 laws_eqSlotS.B6 = true := by kernel_rfl
set_option maxHeartbeats 8000000 in
set_option maxRecDepth 100000 in
theorem laws_eqSlotS.calls (k : Nat) (A0 : Option Addr) (c0 : Nat) (l0 : List (S131)) (A1 : Option Addr) (c1 : Nat) (l1 : List (S131)) (r : Bool) (w : World) (hr0 : Kd.C k131 w A0 l0.length l0) (hc0 : l0.length ≤ c0) (hr1 : Kd.C k131 w A1 l1.length l1) (hc1 : l1.length ≤ c1) (h : laws_eqSlotS.f k l0 l1 = some r) :
    Calls Try.prog 111 #[.slice A0 l0.length c0, .slice A1 l1.length c1] w fun e w' => e = .returned (.bool r) ∧ Below w.heap.size w w' := by
  have hu131 := Try.underlying131
  have HR0 := Aside0.mk hr0
  have HC0 := Aside0.mk hc0
  clear hr0 hc0
  have HR1 := Aside0.mk hr1
  have HC1 := Aside0.mk hc1
  clear hr1 hc1
  have HB := Aside0.mk (Below.refl w.heap.size w)
  have H : (if (l0.length : Int) = (l1.length : Int) then (laws_eqSlotS.l0 k l0 l1 0) else (some false)) = some r := h
  clear h
  by_cases c3 : (l0.length : Int) = (l1.length : Int)
  · rw [if_pos c3] at H
    have c3b0 : ((l0.length : Int) == (l1.length : Int)) = true := beq_iff_eq.mpr c3
    have c3b1 : ((l0.length : Int) != (l1.length : Int)) = false := bne_eq_false_iff_eq.mpr c3
    have c3b2 : (l0.length == l1.length) = true := by first | simpa using c3 | (simp at c3 ⊢; omega)
    clear c3
    have H' := Aside0.mk H
    clear H
    go_enter Try.func111, Try.ntmps111
    go_wp2
    go_loopg [5] k (fun kq v5 w' => ∃ (x5_1 : Int), v5 = .int .i64 x5_1 ∧ Aside0 (laws_eqSlotS.l0 kq l0 l1 x5_1 = some r) ∧ Aside0 (kq ≤ k) ∧ Aside0 (Below w.heap.size w w'))
    case atStart => exact ⟨(0), (by first | rfl | (simp; done) | (simp [*]; done)), H', ⟨Nat.le_refl _⟩, ⟨Kit.bl⟩⟩
    case round =>
      clear H'
      try clear c1
      try clear p2
      try clear c3
      try clear c3b0
      try clear c3b1
      try clear c3b2
      obtain ⟨x5_1, rfl, HA, HK1, HB⟩ := hrel
      cases gk with
      | zero => exact absurd HA.out (by simp [laws_eqSlotS.l0])
      | succ k1 =>
        have H := HA.out
        clear HA
        simp only [laws_eqSlotS.l0] at H
        by_cases c4 : x5_1 < (l0.length : Int)
        · rw [if_pos c4] at H
          have c4b0 : decide (x5_1 < (l0.length : Int)) = true := decide_eq_true c4
          clear c4
          by_cases c5 : 0 ≤ x5_1
          · rw [if_pos c5] at H
            have c5b0 : decide (0 ≤ x5_1) = true := decide_eq_true c5
            clear c5
            by_cases c6 : x5_1 < (l1.length : Int)
            · rw [if_pos c6] at H
              have c6b0 : decide (x5_1 < (l1.length : Int)) = true := decide_eq_true c6
              clear c6
              replace H := Option.bind_eq_some_iff.mp H
              obtain ⟨t234, A70, H⟩ := H
              replace H : (if t234 = true then (laws_eqSlotS.l0 k1 l0 l1 (wrap64 (x5_1 + 1))) else (some false)) = some r := H
              have A7 := Aside0.mk A70
              clear A70
              by_cases c8 : t234 = true
              · subst c8
                have H1 : (laws_eqSlotS.l0 k1 l0 l1 (wrap64 (x5_1 + 1))) = some r := by rw [if_pos rfl] at H; exact H
                clear H
                have H := H1
                clear H1
                have H' := Aside0.mk H
                clear H
                try go_wp2
                replace HB := Aside0.mk (below_drew1 HB.out)
                have p232 : 0 ≤ (x5_1 : Int) := of_decide_eq_true Kit.asm
                have q232 : x5_1 < (l0.length : Int) := of_decide_eq_true Kit.asm
                obtain ⟨ad232, A232_1, c232_1, A232_3, c232_3, e232, hx232_0, hx232_1, hx232_2, hx232_3, hx232_4, hx232_5, hx232_6, hx232_7, hl232_1, hi232_1, hl232_3, hi232_3⟩ := at_T131 HR0.out x5_1 p232 q232
                have hw232_7 := hx232_7
                have hw232_6 := hx232_6
                have hw232_5 := hx232_5
                have hw232_4 := hx232_4
                have hw232_3 := hx232_3
                have hw232_2 := hx232_2
                have hw232_1 := hx232_1
                have hw232_0 := hx232_0
                cases e232
                replace hx232_0 := Kit.hx HB.out hx232_0
                replace hx232_1 := Kit.hx HB.out hx232_1
                replace hx232_2 := Kit.hx HB.out hx232_2
                replace hx232_3 := Kit.hx HB.out hx232_3
                replace hx232_4 := Kit.hx HB.out hx232_4
                replace hx232_5 := Kit.hx HB.out hx232_5
                replace hx232_6 := Kit.hx HB.out hx232_6
                replace hx232_7 := Kit.hx HB.out hx232_7
                have HR232_1 := Aside0.mk hi232_1
                have HC232_1 := Aside0.mk hl232_1
                clear hi232_1 hl232_1
                have HR232_3 := Aside0.mk hi232_3
                have HC232_3 := Aside0.mk hl232_3
                clear hi232_3 hl232_3
                replace p232 := eq_true p232
                replace q232 := eq_true q232
                have p233 : 0 ≤ (x5_1 : Int) := of_decide_eq_true Kit.asm
                have q233 : x5_1 < (l1.length : Int) := of_decide_eq_true Kit.asm
                obtain ⟨ad233, A233_1, c233_1, A233_3, c233_3, e233, hx233_0, hx233_1, hx233_2, hx233_3, hx233_4, hx233_5, hx233_6, hx233_7, hl233_1, hi233_1, hl233_3, hi233_3⟩ := at_T131 HR1.out x5_1 p233 q233
                have hw233_7 := hx233_7
                have hw233_6 := hx233_6
                have hw233_5 := hx233_5
                have hw233_4 := hx233_4
                have hw233_3 := hx233_3
                have hw233_2 := hx233_2
                have hw233_1 := hx233_1
                have hw233_0 := hx233_0
                cases e233
                replace hx233_0 := Kit.hx HB.out hx233_0
                replace hx233_1 := Kit.hx HB.out hx233_1
                replace hx233_2 := Kit.hx HB.out hx233_2
                replace hx233_3 := Kit.hx HB.out hx233_3
                replace hx233_4 := Kit.hx HB.out hx233_4
                replace hx233_5 := Kit.hx HB.out hx233_5
                replace hx233_6 := Kit.hx HB.out hx233_6
                replace hx233_7 := Kit.hx HB.out hx233_7
                have HR233_1 := Aside0.mk hi233_1
                have HC233_1 := Aside0.mk hl233_1
                clear hi233_1 hl233_1
                have HR233_3 := Aside0.mk hi233_3
                have HC233_3 := Aside0.mk hl233_3
                clear hi233_3 hl233_3
                replace p233 := eq_true p233
                replace q233 := eq_true q233
                refine start_ (n := 10) (S := fun w' => w'.cell? (ad232.add ((x5_1).toNat * 8)) = some (.string ((rd_T131 l0 x5_1).f0.f0)) ∧ w'.cell? ⟨(ad232.add ((x5_1).toNat * 8)).block, (ad232.add ((x5_1).toNat * 8)).off + 1, none⟩ = some (.slice A232_1 ((rd_T131 l0 x5_1).f0.f1).length c232_1) ∧ w'.cell? ⟨(ad232.add ((x5_1).toNat * 8)).block, (ad232.add ((x5_1).toNat * 8)).off + 2, none⟩ = some (.int .i64 ((rd_T131 l0 x5_1).f0.f2.f0)) ∧ w'.cell? ⟨(ad232.add ((x5_1).toNat * 8)).block, (ad232.add ((x5_1).toNat * 8)).off + 3, none⟩ = some (.slice A232_3 ((rd_T131 l0 x5_1).f0.f2.f1).length c232_3) ∧ w'.cell? ⟨(ad232.add ((x5_1).toNat * 8)).block, (ad232.add ((x5_1).toNat * 8)).off + 4, none⟩ = some (.string ((rd_T131 l0 x5_1).f0.f2.f2)) ∧ w'.cell? ⟨(ad232.add ((x5_1).toNat * 8)).block, (ad232.add ((x5_1).toNat * 8)).off + 5, none⟩ = some (.int .i64 ((rd_T131 l0 x5_1).f0.f3)) ∧ w'.cell? ⟨(ad232.add ((x5_1).toNat * 8)).block, (ad232.add ((x5_1).toNat * 8)).off + 6, none⟩ = some (.int .i64 ((rd_T131 l0 x5_1).f0.f4)) ∧ w'.cell? ⟨(ad232.add ((x5_1).toNat * 8)).block, (ad232.add ((x5_1).toNat * 8)).off + 7, none⟩ = some (.bool ((rd_T131 l0 x5_1).f1)) ∧ w'.cell? (ad233.add ((x5_1).toNat * 8)) = some (.string ((rd_T131 l1 x5_1).f0.f0)) ∧ w'.cell? ⟨(ad233.add ((x5_1).toNat * 8)).block, (ad233.add ((x5_1).toNat * 8)).off + 1, none⟩ = some (.slice A233_1 ((rd_T131 l1 x5_1).f0.f1).length c233_1) ∧ w'.cell? ⟨(ad233.add ((x5_1).toNat * 8)).block, (ad233.add ((x5_1).toNat * 8)).off + 2, none⟩ = some (.int .i64 ((rd_T131 l1 x5_1).f0.f2.f0)) ∧ w'.cell? ⟨(ad233.add ((x5_1).toNat * 8)).block, (ad233.add ((x5_1).toNat * 8)).off + 3, none⟩ = some (.slice A233_3 ((rd_T131 l1 x5_1).f0.f2.f1).length c233_3) ∧ w'.cell? ⟨(ad233.add ((x5_1).toNat * 8)).block, (ad233.add ((x5_1).toNat * 8)).off + 4, none⟩ = some (.string ((rd_T131 l1 x5_1).f0.f2.f2)) ∧ w'.cell? ⟨(ad233.add ((x5_1).toNat * 8)).block, (ad233.add ((x5_1).toNat * 8)).off + 5, none⟩ = some (.int .i64 ((rd_T131 l1 x5_1).f0.f3)) ∧ w'.cell? ⟨(ad233.add ((x5_1).toNat * 8)).block, (ad233.add ((x5_1).toNat * 8)).off + 6, none⟩ = some (.int .i64 ((rd_T131 l1 x5_1).f0.f4)) ∧ w'.cell? ⟨(ad233.add ((x5_1).toNat * 8)).block, (ad233.add ((x5_1).toNat * 8)).off + 7, none⟩ = some (.bool ((rd_T131 l1 x5_1).f1))) (ds := []) #[false, false, false, false, false, false, false, false, false, false] (by kernel_rfl) rfl rfl ⟨(Kit.hx HB.out hw232_0), (Kit.hx HB.out hw232_1), (Kit.hx HB.out hw232_2), (Kit.hx HB.out hw232_3), (Kit.hx HB.out hw232_4), (Kit.hx HB.out hw232_5), (Kit.hx HB.out hw232_6), (Kit.hx HB.out hw232_7), (Kit.hx HB.out hw233_0), (Kit.hx HB.out hw233_1), (Kit.hx HB.out hw233_2), (Kit.hx HB.out hw233_3), (Kit.hx HB.out hw233_4), (Kit.hx HB.out hw233_5), (Kit.hx HB.out hw233_6), (Kit.hx HB.out hw233_7)⟩ (fun hHeld => ?_); refine with_tabW laws_eqSlotS.tab6 laws_eqSlotS.bits6 (fun HT_ HW_ => ?_)
                generalize wr.drew = w9 at HB HR232_1 HR232_3 HR233_1 HR233_3 hx232_0 hx232_1 hx232_2 hx232_3 hx232_4 hx232_5 hx232_6 hx232_7 hx233_0 hx233_1 hx233_2 hx233_3 hx233_4 hx233_5 hx233_6 hx233_7 hHeld ⊢
                refine pure_ (i := 0) (N := some 17) (v := ?_) (a' := ?_) #[true, false, false, false, false, false, false, false, false, false] rfl rfl (any_of HT_.out (by kernel_rfl)) (fun _ _ _ h => h) (Or.inl ⟨by rfl, ?_⟩) ?_ ?_
                rotate_left
                · intro w'
                  go_simp
                  with_reducible rfl
                rotate_left
                · simp only [Act.put, List.setIfInBounds_toArray, List.set_cons_zero, List.set_cons_succ, i64_w, i32_w]
                  rfl
                refine pure_ (i := 1) (N := some 18) (v := ?_) (a' := ?_) #[true, true, false, false, false, false, false, false, false, false] rfl rfl (any_of HT_.out (by kernel_rfl)) (fun _ _ _ h => h) (Or.inl ⟨by rfl, ?_⟩) ?_ ?_
                rotate_left
                · intro w'
                  go_simp
                  with_reducible rfl
                rotate_left
                · simp only [Act.put, List.setIfInBounds_toArray, List.set_cons_zero, List.set_cons_succ, i64_w, i32_w]
                  rfl
                refine pure_ (i := 2) (N := some 19) (v := ?_) (a' := ?_) #[true, true, true, false, false, false, false, false, false, false] rfl rfl (any_of HT_.out (by kernel_rfl)) (fun _ _ _ h => h) (Or.inl ⟨by rfl, ?_⟩) ?_ ?_
                rotate_left
                · intro w'
                  go_simp
                  with_reducible rfl
                rotate_left
                · simp only [Act.put, List.setIfInBounds_toArray, List.set_cons_zero, List.set_cons_succ, i64_w, i32_w]
                  rfl
                refine pure_ (i := 4) (N := some 21) (v := ?_) (a' := ?_) #[true, true, true, false, true, false, false, false, false, false] rfl rfl (any_of HT_.out (by kernel_rfl)) (fun _ _ _ h => h) (Or.inl ⟨by rfl, ?_⟩) ?_ ?_
                rotate_left
                · intro w'
                  go_simp
                  with_reducible rfl
                rotate_left
                · simp only [Act.put, List.setIfInBounds_toArray, List.set_cons_zero, List.set_cons_succ, i64_w, i32_w]
                  rfl
                refine pure_ (i := 5) (N := some 22) (v := ?_) (a' := ?_) #[true, true, true, false, true, true, false, false, false, false] rfl rfl (any_of HT_.out (by kernel_rfl)) (fun _ _ _ h => h) (Or.inl ⟨by rfl, ?_⟩) ?_ ?_
                rotate_left
                · intro w'
                  go_simp
                  with_reducible rfl
                rotate_left
                · simp only [Act.put, List.setIfInBounds_toArray, List.set_cons_zero, List.set_cons_succ, i64_w, i32_w]
                  rfl
                refine pure_ (i := 6) (N := some 23) (v := ?_) (a' := ?_) #[true, true, true, false, true, true, true, false, false, false] rfl rfl (any_of HT_.out (by kernel_rfl)) (fun _ _ _ h => h) (Or.inl ⟨by rfl, ?_⟩) ?_ ?_
                rotate_left
                · intro w'
                  go_simp
                  with_reducible rfl
                rotate_left
                · simp only [Act.put, List.setIfInBounds_toArray, List.set_cons_zero, List.set_cons_succ, i64_w, i32_w]
                  rfl
                refine take_ (i := 3) (N := some 20) (v := ?_) (a' := ?_) #[true, true, true, true, true, true, true, false, false, false] rfl rfl (take_ofW HT_.out HW_.out (by kernel_rfl)) (fun _ _ _ h => h) (Or.inl ⟨by rfl, ?_⟩) hHeld ?_ ?_
                rotate_left
                · rintro w' ⟨s0, s1, s2, s3, s4, s5, s6, s7, s8, s9, s10, s11, s12, s13, s14, s15⟩
                  go_simp
                  with_reducible rfl
                rotate_left
                · simp only [Act.put, List.setIfInBounds_toArray, List.set_cons_zero, List.set_cons_succ, i64_w, i32_w]
                  rfl
                refine take_ (i := 7) (N := some 24) (v := ?_) (a' := ?_) #[true, true, true, true, true, true, true, true, false, false] rfl rfl (take_ofW HT_.out HW_.out (by kernel_rfl)) (fun _ _ _ h => h) (Or.inl ⟨by rfl, ?_⟩) hHeld ?_ ?_
                rotate_left
                · rintro w' ⟨s0, s1, s2, s3, s4, s5, s6, s7, s8, s9, s10, s11, s12, s13, s14, s15⟩
                  go_simp
                  with_reducible rfl
                rotate_left
                · simp only [Act.put, List.setIfInBounds_toArray, List.set_cons_zero, List.set_cons_succ, i64_w, i32_w]
                  rfl
                refine one_ (i := 8) (N := some 25) #[true, true, true, true, true, true, true, true, true, false] rfl rfl (one_of HT_.out (by kernel_rfl)) (by decide) (fun K hK => ?_)
                refine goes_ Try.func122 (by kernel_rfl) rfl #[.agg #[.string ((rd_T131 l0 x5_1).f0.f0), .slice A232_1 ((rd_T131 l0 x5_1).f0.f1).length c232_1, .int .i64 ((rd_T131 l0 x5_1).f0.f2.f0), .slice A232_3 ((rd_T131 l0 x5_1).f0.f2.f1).length c232_3, .string ((rd_T131 l0 x5_1).f0.f2.f2), .int .i64 ((rd_T131 l0 x5_1).f0.f3), .int .i64 ((rd_T131 l0 x5_1).f0.f4), .bool ((rd_T131 l0 x5_1).f1)], .agg #[.string ((rd_T131 l1 x5_1).f0.f0), .slice A233_1 ((rd_T131 l1 x5_1).f0.f1).length c233_1, .int .i64 ((rd_T131 l1 x5_1).f0.f2.f0), .slice A233_3 ((rd_T131 l1 x5_1).f0.f2.f1).length c233_3, .string ((rd_T131 l1 x5_1).f0.f2.f2), .int .i64 ((rd_T131 l1 x5_1).f0.f3), .int .i64 ((rd_T131 l1 x5_1).f0.f4), .bool ((rd_T131 l1 x5_1).f1)]] (by rfl) rfl rfl Kit.am ?_
                with_reducible refine (laws_eqSlot.calls k1 ((rd_T131 l0 x5_1).f0.f0) _ _ ((rd_T131 l0 x5_1).f0.f1) ((rd_T131 l0 x5_1).f0.f2.f0) _ _ ((rd_T131 l0 x5_1).f0.f2.f1) ((rd_T131 l0 x5_1).f0.f2.f2) ((rd_T131 l0 x5_1).f0.f3) ((rd_T131 l0 x5_1).f0.f4) ((rd_T131 l0 x5_1).f1) ((rd_T131 l1 x5_1).f0.f0) _ _ ((rd_T131 l1 x5_1).f0.f1) ((rd_T131 l1 x5_1).f0.f2.f0) _ _ ((rd_T131 l1 x5_1).f0.f2.f1) ((rd_T131 l1 x5_1).f0.f2.f2) ((rd_T131 l1 x5_1).f0.f3) ((rd_T131 l1 x5_1).f0.f4) ((rd_T131 l1 x5_1).f1) true _ ?side1 ?side2 ?side3 ?side4 ?side5 ?side6 ?side7 ?side8 A7.out).mono ?_
                (case side1 => exact Kit.cr HR232_1.out HB.out)
                (case side2 => exact HC232_1.out)
                (case side3 => exact Kit.cr HR232_3.out HB.out)
                (case side4 => exact HC232_3.out)
                (case side5 => exact Kit.cr HR233_1.out HB.out)
                (case side6 => exact HC233_1.out)
                (case side7 => exact Kit.cr HR233_3.out HB.out)
                (case side8 => exact HC233_3.out)
                rintro e w10 ⟨rfl, hb⟩
                refine ⟨_, rfl, ?_⟩
                replace HB := Kit.hB hb
                (try clear hb)
                (try clear hb2)
                (try clear hk)
                (try clear hi)
                refine hK.out _ _ ⟨(Kit.hx HB.out hw232_0), (Kit.hx HB.out hw232_1), (Kit.hx HB.out hw232_2), (Kit.hx HB.out hw232_3), (Kit.hx HB.out hw232_4), (Kit.hx HB.out hw232_5), (Kit.hx HB.out hw232_6), (Kit.hx HB.out hw232_7), (Kit.hx HB.out hw233_0), (Kit.hx HB.out hw233_1), (Kit.hx HB.out hw233_2), (Kit.hx HB.out hw233_3), (Kit.hx HB.out hw233_4), (Kit.hx HB.out hw233_5), (Kit.hx HB.out hw233_6), (Kit.hx HB.out hw233_7)⟩ (fun hHeld => ?_)
                clear hK K
                refine norm_ (a' := ?_) ?_ ?_
                rotate_left
                · show Act.put _ (some 25) _ = _
                  simp only [Act.put, List.setIfInBounds_toArray, List.set_cons_zero, List.set_cons_succ, i64_w, i32_w]
                  rfl
                refine pure_ (i := 9) (N := some 26) (v := ?_) (a' := ?_) #[true, true, true, true, true, true, true, true, true, true] rfl rfl (any_of HT_.out (by kernel_rfl)) (fun _ _ _ h => h) (Or.inl ⟨by rfl, ?_⟩) ?_ ?_
                rotate_left
                · intro w'
                  go_simp
                  with_reducible rfl
                rotate_left
                · simp only [Act.put, List.setIfInBounds_toArray, List.set_cons_zero, List.set_cons_succ, i64_w, i32_w]
                  rfl
                refine done_ (done_of HT_.out (by kernel_rfl)) ?_
                try go_wp2
                go_roundg k1
                case measure => have := HK1.out; omega
                case rel => exact ⟨(wrap64 (x5_1 + 1)), (by first | rfl | (simp; done) | (simp [*]; done)), H', ⟨by have := HK1.out; omega⟩, ⟨Kit.bl⟩⟩
              · replace c8 := Bool.eq_false_iff.mpr c8
                subst c8
                have H1 : (some false) = some r := by rw [if_neg (show ¬ (false = true) by decide)] at H; exact H
                clear H
                have H := H1
                clear H1
                obtain rfl := Option.some.inj H
                try go_wp2
                replace HB := Aside0.mk (below_drew1 HB.out)
                have p232 : 0 ≤ (x5_1 : Int) := of_decide_eq_true Kit.asm
                have q232 : x5_1 < (l0.length : Int) := of_decide_eq_true Kit.asm
                obtain ⟨ad232, A232_1, c232_1, A232_3, c232_3, e232, hx232_0, hx232_1, hx232_2, hx232_3, hx232_4, hx232_5, hx232_6, hx232_7, hl232_1, hi232_1, hl232_3, hi232_3⟩ := at_T131 HR0.out x5_1 p232 q232
                have hw232_7 := hx232_7
                have hw232_6 := hx232_6
                have hw232_5 := hx232_5
                have hw232_4 := hx232_4
                have hw232_3 := hx232_3
                have hw232_2 := hx232_2
                have hw232_1 := hx232_1
                have hw232_0 := hx232_0
                cases e232
                replace hx232_0 := Kit.hx HB.out hx232_0
                replace hx232_1 := Kit.hx HB.out hx232_1
                replace hx232_2 := Kit.hx HB.out hx232_2
                replace hx232_3 := Kit.hx HB.out hx232_3
                replace hx232_4 := Kit.hx HB.out hx232_4
                replace hx232_5 := Kit.hx HB.out hx232_5
                replace hx232_6 := Kit.hx HB.out hx232_6
                replace hx232_7 := Kit.hx HB.out hx232_7
                have HR232_1 := Aside0.mk hi232_1
                have HC232_1 := Aside0.mk hl232_1
                clear hi232_1 hl232_1
                have HR232_3 := Aside0.mk hi232_3
                have HC232_3 := Aside0.mk hl232_3
                clear hi232_3 hl232_3
                replace p232 := eq_true p232
                replace q232 := eq_true q232
                have p233 : 0 ≤ (x5_1 : Int) := of_decide_eq_true Kit.asm
                have q233 : x5_1 < (l1.length : Int) := of_decide_eq_true Kit.asm
                obtain ⟨ad233, A233_1, c233_1, A233_3, c233_3, e233, hx233_0, hx233_1, hx233_2, hx233_3, hx233_4, hx233_5, hx233_6, hx233_7, hl233_1, hi233_1, hl233_3, hi233_3⟩ := at_T131 HR1.out x5_1 p233 q233
                have hw233_7 := hx233_7
                have hw233_6 := hx233_6
                have hw233_5 := hx233_5
                have hw233_4 := hx233_4
                have hw233_3 := hx233_3
                have hw233_2 := hx233_2
                have hw233_1 := hx233_1
                have hw233_0 := hx233_0
                cases e233
                replace hx233_0 := Kit.hx HB.out hx233_0
                replace hx233_1 := Kit.hx HB.out hx233_1
                replace hx233_2 := Kit.hx HB.out hx233_2
                replace hx233_3 := Kit.hx HB.out hx233_3
                replace hx233_4 := Kit.hx HB.out hx233_4
                replace hx233_5 := Kit.hx HB.out hx233_5
                replace hx233_6 := Kit.hx HB.out hx233_6
                replace hx233_7 := Kit.hx HB.out hx233_7
                have HR233_1 := Aside0.mk hi233_1
                have HC233_1 := Aside0.mk hl233_1
                clear hi233_1 hl233_1
                have HR233_3 := Aside0.mk hi233_3
                have HC233_3 := Aside0.mk hl233_3
                clear hi233_3 hl233_3
                replace p233 := eq_true p233
                replace q233 := eq_true q233
                refine start_ (n := 10) (S := fun w' => w'.cell? (ad232.add ((x5_1).toNat * 8)) = some (.string ((rd_T131 l0 x5_1).f0.f0)) ∧ w'.cell? ⟨(ad232.add ((x5_1).toNat * 8)).block, (ad232.add ((x5_1).toNat * 8)).off + 1, none⟩ = some (.slice A232_1 ((rd_T131 l0 x5_1).f0.f1).length c232_1) ∧ w'.cell? ⟨(ad232.add ((x5_1).toNat * 8)).block, (ad232.add ((x5_1).toNat * 8)).off + 2, none⟩ = some (.int .i64 ((rd_T131 l0 x5_1).f0.f2.f0)) ∧ w'.cell? ⟨(ad232.add ((x5_1).toNat * 8)).block, (ad232.add ((x5_1).toNat * 8)).off + 3, none⟩ = some (.slice A232_3 ((rd_T131 l0 x5_1).f0.f2.f1).length c232_3) ∧ w'.cell? ⟨(ad232.add ((x5_1).toNat * 8)).block, (ad232.add ((x5_1).toNat * 8)).off + 4, none⟩ = some (.string ((rd_T131 l0 x5_1).f0.f2.f2)) ∧ w'.cell? ⟨(ad232.add ((x5_1).toNat * 8)).block, (ad232.add ((x5_1).toNat * 8)).off + 5, none⟩ = some (.int .i64 ((rd_T131 l0 x5_1).f0.f3)) ∧ w'.cell? ⟨(ad232.add ((x5_1).toNat * 8)).block, (ad232.add ((x5_1).toNat * 8)).off + 6, none⟩ = some (.int .i64 ((rd_T131 l0 x5_1).f0.f4)) ∧ w'.cell? ⟨(ad232.add ((x5_1).toNat * 8)).block, (ad232.add ((x5_1).toNat * 8)).off + 7, none⟩ = some (.bool ((rd_T131 l0 x5_1).f1)) ∧ w'.cell? (ad233.add ((x5_1).toNat * 8)) = some (.string ((rd_T131 l1 x5_1).f0.f0)) ∧ w'.cell? ⟨(ad233.add ((x5_1).toNat * 8)).block, (ad233.add ((x5_1).toNat * 8)).off + 1, none⟩ = some (.slice A233_1 ((rd_T131 l1 x5_1).f0.f1).length c233_1) ∧ w'.cell? ⟨(ad233.add ((x5_1).toNat * 8)).block, (ad233.add ((x5_1).toNat * 8)).off + 2, none⟩ = some (.int .i64 ((rd_T131 l1 x5_1).f0.f2.f0)) ∧ w'.cell? ⟨(ad233.add ((x5_1).toNat * 8)).block, (ad233.add ((x5_1).toNat * 8)).off + 3, none⟩ = some (.slice A233_3 ((rd_T131 l1 x5_1).f0.f2.f1).length c233_3) ∧ w'.cell? ⟨(ad233.add ((x5_1).toNat * 8)).block, (ad233.add ((x5_1).toNat * 8)).off + 4, none⟩ = some (.string ((rd_T131 l1 x5_1).f0.f2.f2)) ∧ w'.cell? ⟨(ad233.add ((x5_1).toNat * 8)).block, (ad233.add ((x5_1).toNat * 8)).off + 5, none⟩ = some (.int .i64 ((rd_T131 l1 x5_1).f0.f3)) ∧ w'.cell? ⟨(ad233.add ((x5_1).toNat * 8)).block, (ad233.add ((x5_1).toNat * 8)).off + 6, none⟩ = some (.int .i64 ((rd_T131 l1 x5_1).f0.f4)) ∧ w'.cell? ⟨(ad233.add ((x5_1).toNat * 8)).block, (ad233.add ((x5_1).toNat * 8)).off + 7, none⟩ = some (.bool ((rd_T131 l1 x5_1).f1))) (ds := []) #[false, false, false, false, false, false, false, false, false, false] (by kernel_rfl) rfl rfl ⟨(Kit.hx HB.out hw232_0), (Kit.hx HB.out hw232_1), (Kit.hx HB.out hw232_2), (Kit.hx HB.out hw232_3), (Kit.hx HB.out hw232_4), (Kit.hx HB.out hw232_5), (Kit.hx HB.out hw232_6), (Kit.hx HB.out hw232_7), (Kit.hx HB.out hw233_0), (Kit.hx HB.out hw233_1), (Kit.hx HB.out hw233_2), (Kit.hx HB.out hw233_3), (Kit.hx HB.out hw233_4), (Kit.hx HB.out hw233_5), (Kit.hx HB.out hw233_6), (Kit.hx HB.out hw233_7)⟩ (fun hHeld => ?_); refine with_tabW laws_eqSlotS.tab6 laws_eqSlotS.bits6 (fun HT_ HW_ => ?_)
                generalize wr.drew = w11 at HB HR232_1 HR232_3 HR233_1 HR233_3 hx232_0 hx232_1 hx232_2 hx232_3 hx232_4 hx232_5 hx232_6 hx232_7 hx233_0 hx233_1 hx233_2 hx233_3 hx233_4 hx233_5 hx233_6 hx233_7 hHeld ⊢
                refine pure_ (i := 0) (N := some 17) (v := ?_) (a' := ?_) #[true, false, false, false, false, false, false, false, false, false] rfl rfl (any_of HT_.out (by kernel_rfl)) (fun _ _ _ h => h) (Or.inl ⟨by rfl, ?_⟩) ?_ ?_
                rotate_left
                · intro w'
                  go_simp
                  with_reducible rfl
                rotate_left
                · simp only [Act.put, List.setIfInBounds_toArray, List.set_cons_zero, List.set_cons_succ, i64_w, i32_w]
                  rfl
                refine pure_ (i := 1) (N := some 18) (v := ?_) (a' := ?_) #[true, true, false, false, false, false, false, false, false, false] rfl rfl (any_of HT_.out (by kernel_rfl)) (fun _ _ _ h => h) (Or.inl ⟨by rfl, ?_⟩) ?_ ?_
                rotate_left
                · intro w'
                  go_simp
                  with_reducible rfl
                rotate_left
                · simp only [Act.put, List.setIfInBounds_toArray, List.set_cons_zero, List.set_cons_succ, i64_w, i32_w]
                  rfl
                refine pure_ (i := 2) (N := some 19) (v := ?_) (a' := ?_) #[true, true, true, false, false, false, false, false, false, false] rfl rfl (any_of HT_.out (by kernel_rfl)) (fun _ _ _ h => h) (Or.inl ⟨by rfl, ?_⟩) ?_ ?_
                rotate_left
                · intro w'
                  go_simp
                  with_reducible rfl
                rotate_left
                · simp only [Act.put, List.setIfInBounds_toArray, List.set_cons_zero, List.set_cons_succ, i64_w, i32_w]
                  rfl
                refine pure_ (i := 4) (N := some 21) (v := ?_) (a' := ?_) #[true, true, true, false, true, false, false, false, false, false] rfl rfl (any_of HT_.out (by kernel_rfl)) (fun _ _ _ h => h) (Or.inl ⟨by rfl, ?_⟩) ?_ ?_
                rotate_left
                · intro w'
                  go_simp
                  with_reducible rfl
                rotate_left
                · simp only [Act.put, List.setIfInBounds_toArray, List.set_cons_zero, List.set_cons_succ, i64_w, i32_w]
                  rfl
                refine pure_ (i := 5) (N := some 22) (v := ?_) (a' := ?_) #[true, true, true, false, true, true, false, false, false, false] rfl rfl (any_of HT_.out (by kernel_rfl)) (fun _ _ _ h => h) (Or.inl ⟨by rfl, ?_⟩) ?_ ?_
                rotate_left
                · intro w'
                  go_simp
                  with_reducible rfl
                rotate_left
                · simp only [Act.put, List.setIfInBounds_toArray, List.set_cons_zero, List.set_cons_succ, i64_w, i32_w]
                  rfl
                refine pure_ (i := 6) (N := some 23) (v := ?_) (a' := ?_) #[true, true, true, false, true, true, true, false, false, false] rfl rfl (any_of HT_.out (by kernel_rfl)) (fun _ _ _ h => h) (Or.inl ⟨by rfl, ?_⟩) ?_ ?_
                rotate_left
                · intro w'
                  go_simp
                  with_reducible rfl
                rotate_left
                · simp only [Act.put, List.setIfInBounds_toArray, List.set_cons_zero, List.set_cons_succ, i64_w, i32_w]
                  rfl
                refine take_ (i := 3) (N := some 20) (v := ?_) (a' := ?_) #[true, true, true, true, true, true, true, false, false, false] rfl rfl (take_ofW HT_.out HW_.out (by kernel_rfl)) (fun _ _ _ h => h) (Or.inl ⟨by rfl, ?_⟩) hHeld ?_ ?_
                rotate_left
                · rintro w' ⟨s0, s1, s2, s3, s4, s5, s6, s7, s8, s9, s10, s11, s12, s13, s14, s15⟩
                  go_simp
                  with_reducible rfl
                rotate_left
                · simp only [Act.put, List.setIfInBounds_toArray, List.set_cons_zero, List.set_cons_succ, i64_w, i32_w]
                  rfl
                refine take_ (i := 7) (N := some 24) (v := ?_) (a' := ?_) #[true, true, true, true, true, true, true, true, false, false] rfl rfl (take_ofW HT_.out HW_.out (by kernel_rfl)) (fun _ _ _ h => h) (Or.inl ⟨by rfl, ?_⟩) hHeld ?_ ?_
                rotate_left
                · rintro w' ⟨s0, s1, s2, s3, s4, s5, s6, s7, s8, s9, s10, s11, s12, s13, s14, s15⟩
                  go_simp
                  with_reducible rfl
                rotate_left
                · simp only [Act.put, List.setIfInBounds_toArray, List.set_cons_zero, List.set_cons_succ, i64_w, i32_w]
                  rfl
                refine one_ (i := 8) (N := some 25) #[true, true, true, true, true, true, true, true, true, false] rfl rfl (one_of HT_.out (by kernel_rfl)) (by decide) (fun K hK => ?_)
                refine goes_ Try.func122 (by kernel_rfl) rfl #[.agg #[.string ((rd_T131 l0 x5_1).f0.f0), .slice A232_1 ((rd_T131 l0 x5_1).f0.f1).length c232_1, .int .i64 ((rd_T131 l0 x5_1).f0.f2.f0), .slice A232_3 ((rd_T131 l0 x5_1).f0.f2.f1).length c232_3, .string ((rd_T131 l0 x5_1).f0.f2.f2), .int .i64 ((rd_T131 l0 x5_1).f0.f3), .int .i64 ((rd_T131 l0 x5_1).f0.f4), .bool ((rd_T131 l0 x5_1).f1)], .agg #[.string ((rd_T131 l1 x5_1).f0.f0), .slice A233_1 ((rd_T131 l1 x5_1).f0.f1).length c233_1, .int .i64 ((rd_T131 l1 x5_1).f0.f2.f0), .slice A233_3 ((rd_T131 l1 x5_1).f0.f2.f1).length c233_3, .string ((rd_T131 l1 x5_1).f0.f2.f2), .int .i64 ((rd_T131 l1 x5_1).f0.f3), .int .i64 ((rd_T131 l1 x5_1).f0.f4), .bool ((rd_T131 l1 x5_1).f1)]] (by rfl) rfl rfl Kit.am ?_
                with_reducible refine (laws_eqSlot.calls k1 ((rd_T131 l0 x5_1).f0.f0) _ _ ((rd_T131 l0 x5_1).f0.f1) ((rd_T131 l0 x5_1).f0.f2.f0) _ _ ((rd_T131 l0 x5_1).f0.f2.f1) ((rd_T131 l0 x5_1).f0.f2.f2) ((rd_T131 l0 x5_1).f0.f3) ((rd_T131 l0 x5_1).f0.f4) ((rd_T131 l0 x5_1).f1) ((rd_T131 l1 x5_1).f0.f0) _ _ ((rd_T131 l1 x5_1).f0.f1) ((rd_T131 l1 x5_1).f0.f2.f0) _ _ ((rd_T131 l1 x5_1).f0.f2.f1) ((rd_T131 l1 x5_1).f0.f2.f2) ((rd_T131 l1 x5_1).f0.f3) ((rd_T131 l1 x5_1).f0.f4) ((rd_T131 l1 x5_1).f1) false _ ?side1 ?side2 ?side3 ?side4 ?side5 ?side6 ?side7 ?side8 A7.out).mono ?_
                (case side1 => exact Kit.cr HR232_1.out HB.out)
                (case side2 => exact HC232_1.out)
                (case side3 => exact Kit.cr HR232_3.out HB.out)
                (case side4 => exact HC232_3.out)
                (case side5 => exact Kit.cr HR233_1.out HB.out)
                (case side6 => exact HC233_1.out)
                (case side7 => exact Kit.cr HR233_3.out HB.out)
                (case side8 => exact HC233_3.out)
                rintro e w12 ⟨rfl, hb⟩
                refine ⟨_, rfl, ?_⟩
                replace HB := Kit.hB hb
                (try clear hb)
                (try clear hb2)
                (try clear hk)
                (try clear hi)
                refine hK.out _ _ ⟨(Kit.hx HB.out hw232_0), (Kit.hx HB.out hw232_1), (Kit.hx HB.out hw232_2), (Kit.hx HB.out hw232_3), (Kit.hx HB.out hw232_4), (Kit.hx HB.out hw232_5), (Kit.hx HB.out hw232_6), (Kit.hx HB.out hw232_7), (Kit.hx HB.out hw233_0), (Kit.hx HB.out hw233_1), (Kit.hx HB.out hw233_2), (Kit.hx HB.out hw233_3), (Kit.hx HB.out hw233_4), (Kit.hx HB.out hw233_5), (Kit.hx HB.out hw233_6), (Kit.hx HB.out hw233_7)⟩ (fun hHeld => ?_)
                clear hK K
                refine norm_ (a' := ?_) ?_ ?_
                rotate_left
                · show Act.put _ (some 25) _ = _
                  simp only [Act.put, List.setIfInBounds_toArray, List.set_cons_zero, List.set_cons_succ, i64_w, i32_w]
                  rfl
                refine pure_ (i := 9) (N := some 26) (v := ?_) (a' := ?_) #[true, true, true, true, true, true, true, true, true, true] rfl rfl (any_of HT_.out (by kernel_rfl)) (fun _ _ _ h => h) (Or.inl ⟨by rfl, ?_⟩) ?_ ?_
                rotate_left
                · intro w'
                  go_simp
                  with_reducible rfl
                rotate_left
                · simp only [Act.put, List.setIfInBounds_toArray, List.set_cons_zero, List.set_cons_succ, i64_w, i32_w]
                  rfl
                refine done_ (done_of HT_.out (by kernel_rfl)) ?_
                try go_wp2
                go_ret
                exact ⟨Kit.er, Kit.bl⟩
            · rw [if_neg c6] at H
              exact absurd H (by simp)
          · rw [if_neg c5] at H
            exact absurd H (by simp)
        · rw [if_neg c4] at H
          have c4b0 : decide (x5_1 < (l0.length : Int)) = false := decide_eq_false c4
          clear c4
          obtain rfl := Option.some.inj H
          go_wp2
          go_ret
          exact ⟨Kit.er, Kit.bl⟩
  · rw [if_neg c3] at H
    have c3b0 : ((l0.length : Int) == (l1.length : Int)) = false := beq_eq_false_iff_ne.mpr c3
    have c3b1 : ((l0.length : Int) != (l1.length : Int)) = true := bne_iff_ne.mpr c3
    have c3b2 : (l0.length == l1.length) = false := by first | simpa using c3 | (simp at c3 ⊢; omega)
    obtain rfl := Option.some.inj H
    go_enter Try.func111, Try.ntmps111
    go_wp2
    go_ret
    exact ⟨Kit.er, Kit.bl⟩

/-! ### laws_eqShard: function 96 -/
def laws_eqShard.f (k : Nat) (a0_0 : Int) (a0_1 : Int) (l0_2 : List (S131)) (a0_3 : Int) (a1_0 : Int) (a1_1 : Int) (l1_2 : List (S131)) (a1_3 : Int) : Option (Bool) := if a0_0 = a1_0 then (if a0_1 = a1_1 then ((laws_eqSlotS.f k l0_2 l1_2).bind fun t237 => (if t237 = true then (if a0_3 = a1_3 then (some true) else (some false)) else (some false))) else (some false)) else (some false)
theorem laws_eqShard.mono : ∀ a0 a1 a2 a3 a4 a5 a6 a7 k, LeO (laws_eqShard.f k a0 a1 a2 a3 a4 a5 a6 a7) (laws_eqShard.f (k + 1) a0 a1 a2 a3 a4 a5 a6 a7) := by
  intro a0 a1 a2 a3 a4 a5 a6 a7 k
  unfold laws_eqShard.f
  repeat' first
      | (with_reducible exact laws_eqSlotS.mono _ _ _)
      | (with_reducible exact LeO.refl _)
      | (with_reducible exact LeO.none _)
      | (with_reducible refine LeO.ite ?_ ?_)
      | (with_reducible refine LeO.bind ?_ (fun _ => ?_))
      | exact laws_eqSlotS.mono _ _ _
      | exact LeO.none _
      | refine LeO.ite ?_ ?_
      | refine LeO.bind ?_ (fun _ => ?_)
set_option maxHeartbeats 8000000 in
set_option maxRecDepth 100000 in
theorem laws_eqShard.calls (k : Nat) (a0_0 : Int) (a0_1 : Int) (A0_2 : Option Addr) (c0_2 : Nat) (l0_2 : List (S131)) (a0_3 : Int) (a1_0 : Int) (a1_1 : Int) (A1_2 : Option Addr) (c1_2 : Nat) (l1_2 : List (S131)) (a1_3 : Int) (r : Bool) (w : World) (hr0_2 : Kd.C k131 w A0_2 l0_2.length l0_2) (hc0_2 : l0_2.length ≤ c0_2) (hr1_2 : Kd.C k131 w A1_2 l1_2.length l1_2) (hc1_2 : l1_2.length ≤ c1_2) (h : laws_eqShard.f k a0_0 a0_1 l0_2 a0_3 a1_0 a1_1 l1_2 a1_3 = some r) :
    Calls Try.prog 96 #[.agg #[.int .i64 a0_0, .int .i64 a0_1, .slice A0_2 l0_2.length c0_2, .int .i64 a0_3], .agg #[.int .i64 a1_0, .int .i64 a1_1, .slice A1_2 l1_2.length c1_2, .int .i64 a1_3]] w fun e w' => e = .returned (.bool r) ∧ Below w.heap.size w w' := by
  have hu97 := Try.underlying97
  have HR0_2 := Aside0.mk hr0_2
  have HC0_2 := Aside0.mk hc0_2
  clear hr0_2 hc0_2
  have HR1_2 := Aside0.mk hr1_2
  have HC1_2 := Aside0.mk hc1_2
  clear hr1_2 hc1_2
  have HB := Aside0.mk (Below.refl w.heap.size w)
  have H : (if a0_0 = a1_0 then (if a0_1 = a1_1 then ((laws_eqSlotS.f k l0_2 l1_2).bind fun t237 => (if t237 = true then (if a0_3 = a1_3 then (some true) else (some false)) else (some false))) else (some false)) else (some false)) = some r := h
  clear h
  by_cases c3 : a0_0 = a1_0
  · rw [if_pos c3] at H
    have c3b0 : (a0_0 == a1_0) = true := beq_iff_eq.mpr c3
    have c3b1 : (a0_0 != a1_0) = false := bne_eq_false_iff_eq.mpr c3
    clear c3
    by_cases c4 : a0_1 = a1_1
    · rw [if_pos c4] at H
      have c4b0 : (a0_1 == a1_1) = true := beq_iff_eq.mpr c4
      have c4b1 : (a0_1 != a1_1) = false := bne_eq_false_iff_eq.mpr c4
      clear c4
      replace H := Option.bind_eq_some_iff.mp H
      obtain ⟨t237, A50, H⟩ := H
      replace H : (if t237 = true then (if a0_3 = a1_3 then (some true) else (some false)) else (some false)) = some r := H
      have A5 := Aside0.mk A50
      clear A50
      by_cases c6 : t237 = true
      · subst c6
        have H1 : (if a0_3 = a1_3 then (some true) else (some false)) = some r := by rw [if_pos rfl] at H; exact H
        clear H
        have H := H1
        clear H1
        by_cases c7 : a0_3 = a1_3
        · rw [if_pos c7] at H
          have c7b0 : (a0_3 == a1_3) = true := beq_iff_eq.mpr c7
          have c7b1 : (a0_3 != a1_3) = false := bne_eq_false_iff_eq.mpr c7
          clear c7
          obtain rfl := Option.some.inj H
          go_enter Try.func96, Try.ntmps96
          go_wp2_with (first | ((with_reducible refine gate_dst (N := 2) rfl ?_); refine box_event ?hg (N := 2) ?hd (cs := #[.int .i64 a0_0, .int .i64 a0_1, .slice A0_2 l0_2.length c0_2, .int .i64 a0_3]) (t := 97) ?hr ?_; (case hd => rfl); (case hg => rfl); (case hr => exact Kit.hr); intro gb235 hg w8 hbox hb; have BK235 := Aside0.mk (hbox); have GW235 := Kit.gX (w := w) hg; have GE235 := GW235; replace HB := Kit.hB hb; clear hb hbox hg) | ((with_reducible refine gate_dst (N := 3) rfl ?_); refine box_event ?hg (N := 3) ?hd (cs := #[.int .i64 a1_0, .int .i64 a1_1, .slice A1_2 l1_2.length c1_2, .int .i64 a1_3]) (t := 97) ?hr ?_; (case hd => rfl); (case hg => rfl); (case hr => exact Kit.hr); intro gb236 hg w9 hbox hb; have BK236 := Aside0.mk (hbox); have GW236 := Kit.gX (w := w) hg; have GE236 := GW236; replace HB := Kit.hB hb; have NB235_236 := Aside0.mk (Kit.nlt hg BK235.out); have NB236_235 := Aside0.mk (Kit.ngt hg BK235.out); replace BK235 := Kit.bB BK235 hb; clear hb hbox hg; have hnb10 := NB235_236.out; have hnc10 := NB236_235.out; obtain ⟨hcz11_0, hcz11_1, hcz11_2, hcz11_3, hfz11_0, hfz11_1, hfz11_2, hfz11_3⟩ := Kit.c4 BK235.out; obtain ⟨hcz12_0, hcz12_1, hcz12_2, hcz12_3, hfz12_0, hfz12_1, hfz12_2, hfz12_3⟩ := Kit.c4 BK236.out) | ((with_reducible refine Kit.gate_callee (f := 111) rfl ?_); refine goesL_ (some 19) rfl rfl Try.func111 (by kernel_rfl) rfl #[.slice A0_2 l0_2.length c0_2, .slice A1_2 l1_2.length c1_2] rfl Kit.am ?_; (with_reducible refine (laws_eqSlotS.calls k _ _ l0_2 _ _ l1_2 true _ ?side1 ?side2 ?side3 ?side4 A5.out).mono ?_); (case side1 => exact Kit.cr HR0_2.out HB.out); (case side2 => exact HC0_2.out); (case side3 => exact Kit.cr HR1_2.out HB.out); (case side4 => exact HC1_2.out); rintro e w13 ⟨rfl, hb⟩; refine ⟨_, rfl, ?_⟩; replace BK235 := Kit.bB BK235 hb; replace BK236 := Kit.bB BK236 hb; replace HB := Kit.hB hb; (try clear hb); (try clear hb2); (try clear hk); (try clear hi); obtain ⟨hcz14_0, hcz14_1, hcz14_2, hcz14_3, hfz14_0, hfz14_1, hfz14_2, hfz14_3⟩ := Kit.c4 BK235.out; obtain ⟨hcz15_0, hcz15_1, hcz15_2, hcz15_3, hfz15_0, hfz15_1, hfz15_2, hfz15_3⟩ := Kit.c4 BK236.out))
          go_ret
          exact ⟨Kit.er, Kit.bl⟩
        · rw [if_neg c7] at H
          have c7b0 : (a0_3 == a1_3) = false := beq_eq_false_iff_ne.mpr c7
          have c7b1 : (a0_3 != a1_3) = true := bne_iff_ne.mpr c7
          obtain rfl := Option.some.inj H
          go_enter Try.func96, Try.ntmps96
          go_wp2_with (first | ((with_reducible refine gate_dst (N := 2) rfl ?_); refine box_event ?hg (N := 2) ?hd (cs := #[.int .i64 a0_0, .int .i64 a0_1, .slice A0_2 l0_2.length c0_2, .int .i64 a0_3]) (t := 97) ?hr ?_; (case hd => rfl); (case hg => rfl); (case hr => exact Kit.hr); intro gb235 hg w16 hbox hb; have BK235 := Aside0.mk (hbox); have GW235 := Kit.gX (w := w) hg; have GE235 := GW235; replace HB := Kit.hB hb; clear hb hbox hg) | ((with_reducible refine gate_dst (N := 3) rfl ?_); refine box_event ?hg (N := 3) ?hd (cs := #[.int .i64 a1_0, .int .i64 a1_1, .slice A1_2 l1_2.length c1_2, .int .i64 a1_3]) (t := 97) ?hr ?_; (case hd => rfl); (case hg => rfl); (case hr => exact Kit.hr); intro gb236 hg w17 hbox hb; have BK236 := Aside0.mk (hbox); have GW236 := Kit.gX (w := w) hg; have GE236 := GW236; replace HB := Kit.hB hb; have NB235_236 := Aside0.mk (Kit.nlt hg BK235.out); have NB236_235 := Aside0.mk (Kit.ngt hg BK235.out); replace BK235 := Kit.bB BK235 hb; clear hb hbox hg; have hnb18 := NB235_236.out; have hnc18 := NB236_235.out; obtain ⟨hcz19_0, hcz19_1, hcz19_2, hcz19_3, hfz19_0, hfz19_1, hfz19_2, hfz19_3⟩ := Kit.c4 BK235.out; obtain ⟨hcz20_0, hcz20_1, hcz20_2, hcz20_3, hfz20_0, hfz20_1, hfz20_2, hfz20_3⟩ := Kit.c4 BK236.out) | ((with_reducible refine Kit.gate_callee (f := 111) rfl ?_); refine goesL_ (some 19) rfl rfl Try.func111 (by kernel_rfl) rfl #[.slice A0_2 l0_2.length c0_2, .slice A1_2 l1_2.length c1_2] rfl Kit.am ?_; (with_reducible refine (laws_eqSlotS.calls k _ _ l0_2 _ _ l1_2 true _ ?side1 ?side2 ?side3 ?side4 A5.out).mono ?_); (case side1 => exact Kit.cr HR0_2.out HB.out); (case side2 => exact HC0_2.out); (case side3 => exact Kit.cr HR1_2.out HB.out); (case side4 => exact HC1_2.out); rintro e w21 ⟨rfl, hb⟩; refine ⟨_, rfl, ?_⟩; replace BK235 := Kit.bB BK235 hb; replace BK236 := Kit.bB BK236 hb; replace HB := Kit.hB hb; (try clear hb); (try clear hb2); (try clear hk); (try clear hi); obtain ⟨hcz22_0, hcz22_1, hcz22_2, hcz22_3, hfz22_0, hfz22_1, hfz22_2, hfz22_3⟩ := Kit.c4 BK235.out; obtain ⟨hcz23_0, hcz23_1, hcz23_2, hcz23_3, hfz23_0, hfz23_1, hfz23_2, hfz23_3⟩ := Kit.c4 BK236.out))
          go_ret
          exact ⟨Kit.er, Kit.bl⟩
      · replace c6 := Bool.eq_false_iff.mpr c6
        subst c6
        have H1 : (some false) = some r := by rw [if_neg (show ¬ (false = true) by decide)] at H; exact H
        clear H
        have H := H1
        clear H1
        obtain rfl := Option.some.inj H
        go_enter Try.func96, Try.ntmps96
        go_wp2_with (first | ((with_reducible refine gate_dst (N := 2) rfl ?_); refine box_event ?hg (N := 2) ?hd (cs := #[.int .i64 a0_0, .int .i64 a0_1, .slice A0_2 l0_2.length c0_2, .int .i64 a0_3]) (t := 97) ?hr ?_; (case hd => rfl); (case hg => rfl); (case hr => exact Kit.hr); intro gb235 hg w24 hbox hb; have BK235 := Aside0.mk (hbox); have GW235 := Kit.gX (w := w) hg; have GE235 := GW235; replace HB := Kit.hB hb; clear hb hbox hg) | ((with_reducible refine gate_dst (N := 3) rfl ?_); refine box_event ?hg (N := 3) ?hd (cs := #[.int .i64 a1_0, .int .i64 a1_1, .slice A1_2 l1_2.length c1_2, .int .i64 a1_3]) (t := 97) ?hr ?_; (case hd => rfl); (case hg => rfl); (case hr => exact Kit.hr); intro gb236 hg w25 hbox hb; have BK236 := Aside0.mk (hbox); have GW236 := Kit.gX (w := w) hg; have GE236 := GW236; replace HB := Kit.hB hb; have NB235_236 := Aside0.mk (Kit.nlt hg BK235.out); have NB236_235 := Aside0.mk (Kit.ngt hg BK235.out); replace BK235 := Kit.bB BK235 hb; clear hb hbox hg; have hnb26 := NB235_236.out; have hnc26 := NB236_235.out; obtain ⟨hcz27_0, hcz27_1, hcz27_2, hcz27_3, hfz27_0, hfz27_1, hfz27_2, hfz27_3⟩ := Kit.c4 BK235.out; obtain ⟨hcz28_0, hcz28_1, hcz28_2, hcz28_3, hfz28_0, hfz28_1, hfz28_2, hfz28_3⟩ := Kit.c4 BK236.out) | ((with_reducible refine Kit.gate_callee (f := 111) rfl ?_); refine goesL_ (some 19) rfl rfl Try.func111 (by kernel_rfl) rfl #[.slice A0_2 l0_2.length c0_2, .slice A1_2 l1_2.length c1_2] rfl Kit.am ?_; (with_reducible refine (laws_eqSlotS.calls k _ _ l0_2 _ _ l1_2 false _ ?side1 ?side2 ?side3 ?side4 A5.out).mono ?_); (case side1 => exact Kit.cr HR0_2.out HB.out); (case side2 => exact HC0_2.out); (case side3 => exact Kit.cr HR1_2.out HB.out); (case side4 => exact HC1_2.out); rintro e w29 ⟨rfl, hb⟩; refine ⟨_, rfl, ?_⟩; replace BK235 := Kit.bB BK235 hb; replace BK236 := Kit.bB BK236 hb; replace HB := Kit.hB hb; (try clear hb); (try clear hb2); (try clear hk); (try clear hi)))
        go_ret
        exact ⟨Kit.er, Kit.bl⟩
    · rw [if_neg c4] at H
      have c4b0 : (a0_1 == a1_1) = false := beq_eq_false_iff_ne.mpr c4
      have c4b1 : (a0_1 != a1_1) = true := bne_iff_ne.mpr c4
      obtain rfl := Option.some.inj H
      go_enter Try.func96, Try.ntmps96
      go_wp2_with (first | ((with_reducible refine gate_dst (N := 2) rfl ?_); refine box_event ?hg (N := 2) ?hd (cs := #[.int .i64 a0_0, .int .i64 a0_1, .slice A0_2 l0_2.length c0_2, .int .i64 a0_3]) (t := 97) ?hr ?_; (case hd => rfl); (case hg => rfl); (case hr => exact Kit.hr); intro gb235 hg w30 hbox hb; have BK235 := Aside0.mk (hbox); have GW235 := Kit.gX (w := w) hg; have GE235 := GW235; replace HB := Kit.hB hb; clear hb hbox hg) | ((with_reducible refine gate_dst (N := 3) rfl ?_); refine box_event ?hg (N := 3) ?hd (cs := #[.int .i64 a1_0, .int .i64 a1_1, .slice A1_2 l1_2.length c1_2, .int .i64 a1_3]) (t := 97) ?hr ?_; (case hd => rfl); (case hg => rfl); (case hr => exact Kit.hr); intro gb236 hg w31 hbox hb; have BK236 := Aside0.mk (hbox); have GW236 := Kit.gX (w := w) hg; have GE236 := GW236; replace HB := Kit.hB hb; have NB235_236 := Aside0.mk (Kit.nlt hg BK235.out); have NB236_235 := Aside0.mk (Kit.ngt hg BK235.out); replace BK235 := Kit.bB BK235 hb; clear hb hbox hg; have hnb32 := NB235_236.out; have hnc32 := NB236_235.out; obtain ⟨hcz33_0, hcz33_1, hcz33_2, hcz33_3, hfz33_0, hfz33_1, hfz33_2, hfz33_3⟩ := Kit.c4 BK235.out; obtain ⟨hcz34_0, hcz34_1, hcz34_2, hcz34_3, hfz34_0, hfz34_1, hfz34_2, hfz34_3⟩ := Kit.c4 BK236.out))
      go_ret
      exact ⟨Kit.er, Kit.bl⟩
  · rw [if_neg c3] at H
    have c3b0 : (a0_0 == a1_0) = false := beq_eq_false_iff_ne.mpr c3
    have c3b1 : (a0_0 != a1_0) = true := bne_iff_ne.mpr c3
    obtain rfl := Option.some.inj H
    go_enter Try.func96, Try.ntmps96
    go_wp2_with (first | ((with_reducible refine gate_dst (N := 2) rfl ?_); refine box_event ?hg (N := 2) ?hd (cs := #[.int .i64 a0_0, .int .i64 a0_1, .slice A0_2 l0_2.length c0_2, .int .i64 a0_3]) (t := 97) ?hr ?_; (case hd => rfl); (case hg => rfl); (case hr => exact Kit.hr); intro gb235 hg w35 hbox hb; have BK235 := Aside0.mk (hbox); have GW235 := Kit.gX (w := w) hg; have GE235 := GW235; replace HB := Kit.hB hb; clear hb hbox hg) | ((with_reducible refine gate_dst (N := 3) rfl ?_); refine box_event ?hg (N := 3) ?hd (cs := #[.int .i64 a1_0, .int .i64 a1_1, .slice A1_2 l1_2.length c1_2, .int .i64 a1_3]) (t := 97) ?hr ?_; (case hd => rfl); (case hg => rfl); (case hr => exact Kit.hr); intro gb236 hg w36 hbox hb; have BK236 := Aside0.mk (hbox); have GW236 := Kit.gX (w := w) hg; have GE236 := GW236; replace HB := Kit.hB hb; have NB235_236 := Aside0.mk (Kit.nlt hg BK235.out); have NB236_235 := Aside0.mk (Kit.ngt hg BK235.out); replace BK235 := Kit.bB BK235 hb; clear hb hbox hg; have hnb37 := NB235_236.out; have hnc37 := NB236_235.out; obtain ⟨hcz38_0, hcz38_1, hcz38_2, hcz38_3, hfz38_0, hfz38_1, hfz38_2, hfz38_3⟩ := Kit.c4 BK235.out; obtain ⟨hcz39_0, hcz39_1, hcz39_2, hcz39_3, hfz39_0, hfz39_1, hfz39_2, hfz39_3⟩ := Kit.c4 BK236.out))
    go_ret
    exact ⟨Kit.er, Kit.bl⟩

end Go.Proofs.Ythbmemimpakljaa.QFnExactSameCache
