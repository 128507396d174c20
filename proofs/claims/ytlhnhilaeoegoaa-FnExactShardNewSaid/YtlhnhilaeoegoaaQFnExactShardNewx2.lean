-- Written by own.py, a program of this session's own, which calls the kit's print. Lean checks it.
import Derived.Test.YtlhnhilaeoegoaaQFnExactShardNewx0
import Derived.Test.YtlhnhilaeoegoaaQFnExactShardNewx1
namespace Go.Proofs.Ytlhnhilaeoegoaa.QFnExactShardNew
open Go.RowKit Go.Proofs.YtlhnhilaeoegoaaW.PrintWords Go.Proofs.YtlhnhilaeoegoaaW.PrintLast Go.Proofs.YtlhnhilaeoegoaaW.PrintMore
attribute [local go_sem] Kit.run_store_one max2_int min2_int max_two min_two max_three min_three max_four min_four   -- for this text's walks alone
set_option linter.unusedVariables false
set_option linter.unusedSimpArgs false

/-! ### laws_eqSlotS: function 64 -/
def laws_eqSlotS.l0 : Nat → List (S87) → List (S87) → Int → Option (Bool)
  | 0, _, _, _ => none
  | k + 1, x0, x1, x5 => if x5 < (x0.length : Int) then (if 0 ≤ x5 then (if x5 < (x1.length : Int) then ((laws_eqSlot.f k ((rd_T87 x0 x5).f0.f0) ((rd_T87 x0 x5).f0.f1) ((rd_T87 x0 x5).f0.f2.f0) ((rd_T87 x0 x5).f0.f2.f1) ((rd_T87 x0 x5).f0.f2.f2) ((rd_T87 x0 x5).f0.f3) ((rd_T87 x0 x5).f0.f4) ((rd_T87 x0 x5).f1) ((rd_T87 x1 x5).f0.f0) ((rd_T87 x1 x5).f0.f1) ((rd_T87 x1 x5).f0.f2.f0) ((rd_T87 x1 x5).f0.f2.f1) ((rd_T87 x1 x5).f0.f2.f2) ((rd_T87 x1 x5).f0.f3) ((rd_T87 x1 x5).f0.f4) ((rd_T87 x1 x5).f1)).bind fun t125 => (if t125 = true then (laws_eqSlotS.l0 k x0 x1 (wrap64 (x5 + 1))) else (some false))) else (none)) else (none)) else (some true)
def laws_eqSlotS.f (k : Nat) (l0 : List (S87)) (l1 : List (S87)) : Option (Bool) := if (l0.length : Int) = (l1.length : Int) then (laws_eqSlotS.l0 k l0 l1 0) else (some false)
theorem laws_eqSlotS.mono_l : ∀ k, (∀ y0 y1 y2, LeO (laws_eqSlotS.l0 k y0 y1 y2) (laws_eqSlotS.l0 (k + 1) y0 y1 y2))
  | 0 => fun _ _ _ r h => by simp [laws_eqSlotS.l0] at h
  | k + 1 => by
    have ih0 := laws_eqSlotS.mono_l k
    · intro y0 y1 y2
      unfold laws_eqSlotS.l0
      repeat' first
      | (with_reducible exact ih0 _ _ _)
      | (with_reducible exact laws_eqSlot.mono _ _ _ _ _ _ _ _ _ _ _ _ _ _ _ _ _)
      | (with_reducible exact LeO.refl _)
      | (with_reducible exact LeO.none _)
      | (with_reducible refine LeO.ite ?_ ?_)
      | (with_reducible refine LeO.bind ?_ (fun _ => ?_))
      | exact ih0 _ _ _
      | exact laws_eqSlot.mono _ _ _ _ _ _ _ _ _ _ _ _ _ _ _ _ _
      | exact LeO.none _
      | refine LeO.ite ?_ ?_
      | refine LeO.bind ?_ (fun _ => ?_)
theorem laws_eqSlotS.mono : ∀ a0 a1 k, LeO (laws_eqSlotS.f k a0 a1) (laws_eqSlotS.f (k + 1) a0 a1) := by
  intro a0 a1 k
  have ih0 := laws_eqSlotS.mono_l k
  unfold laws_eqSlotS.f
  repeat' first
      | (with_reducible exact ih0 _ _ _)
      | (with_reducible exact laws_eqSlot.mono _ _ _ _ _ _ _ _ _ _ _ _ _ _ _ _ _)
      | (with_reducible exact LeO.refl _)
      | (with_reducible exact LeO.none _)
      | (with_reducible refine LeO.ite ?_ ?_)
      | (with_reducible refine LeO.bind ?_ (fun _ => ?_))
      | exact ih0 _ _ _
      | exact laws_eqSlot.mono _ _ _ _ _ _ _ _ _ _ _ _ _ _ _ _ _
      | exact LeO.none _
      | refine LeO.ite ?_ ?_
      | refine LeO.bind ?_ (fun _ => ?_)
def laws_eqSlotS.T6 : Bool × List (List Nat × List Nat) := (true, [([], []), ([], []), ([0, 1], [0, 1]), ([2], [2]), ([], []), ([], []), ([4, 5], [4, 5]), ([6], [6]), ([3, 7], [3, 7]), ([8], [8])])
def laws_eqSlotS.B6 : List Nat := [0, 0, 3, 7, 0, 0, 48, 112, 255, 511]
theorem laws_eqSlotS.tab6 : rtab .any (opsOf Try.f64 6) = laws_eqSlotS.T6 := by kernel_rfl
theorem laws_eqSlotS.bits6 : waitsOk laws_eqSlotS.T6.2 laws_eqSlotS.B6 = true := by kernel_rfl
set_option maxHeartbeats 8000000 in
set_option maxRecDepth 100000 in
theorem laws_eqSlotS.calls (k : Nat) (A0 : Option Addr) (c0 : Nat) (l0 : List (S87)) (A1 : Option Addr) (c1 : Nat) (l1 : List (S87)) (r : Bool) (w : World) (hr0 : Kd.C k87 w A0 l0.length l0) (hc0 : l0.length ≤ c0) (hr1 : Kd.C k87 w A1 l1.length l1) (hc1 : l1.length ≤ c1) (h : laws_eqSlotS.f k l0 l1 = some r) :
    Calls Try.prog 64 #[.slice A0 l0.length c0, .slice A1 l1.length c1] w fun e w' => e = .returned (.bool r) ∧ Below w.heap.size w w' := by
  have hu87 := Try.underlying87
  have HR0 := Aside0.mk hr0
  have HC0 := Aside0.mk hc0
  clear hr0 hc0
  have HR1 := Aside0.mk hr1
  have HC1 := Aside0.mk hc1
  clear hr1 hc1
  have HB := Aside0.mk (Below.refl w.heap.size w)
  have H : (if (l0.length : Int) = (l1.length : Int) then (laws_eqSlotS.l0 k l0 l1 0) else (some false)) = some r := h
  clear h
  by_cases c3 : (l0.length : Int) = (l1.length : Int)
  · rw [if_pos c3] at H
    have c3b0 : ((l0.length : Int) == (l1.length : Int)) = true := beq_iff_eq.mpr c3
    have c3b1 : ((l0.length : Int) != (l1.length : Int)) = false := bne_eq_false_iff_eq.mpr c3
    have c3b2 : (l0.length == l1.length) = true := by first | simpa using c3 | (simp at c3 ⊢; omega)
    clear c3
    have H' := Aside0.mk H
    clear H
    go_enter Try.func64, Try.ntmps64
    go_wp2
    go_loopg [5] k (fun kq v5 w' => ∃ (x5_1 : Int), v5 = .int .i64 x5_1 ∧ Aside0 (laws_eqSlotS.l0 kq l0 l1 x5_1 = some r) ∧ Aside0 (kq ≤ k) ∧ Aside0 (Below w.heap.size w w'))
    case atStart => exact ⟨(0), (by first | rfl | (simp; done) | (simp [*]; done)), H', ⟨Nat.le_refl _⟩, ⟨Kit.bl⟩⟩
    case round =>
      clear H'
      try clear c1
      try clear p2
      try clear c3
      try clear c3b0
      try clear c3b1
      try clear c3b2
      obtain ⟨x5_1, rfl, HA, HK1, HB⟩ := hrel
      cases gk with
      | zero => exact absurd HA.out (by simp [laws_eqSlotS.l0])
      | succ k1 =>
        have H := HA.out
        clear HA
        simp only [laws_eqSlotS.l0] at H
        by_cases c4 : x5_1 < (l0.length : Int)
        · rw [if_pos c4] at H
          have c4b0 : decide (x5_1 < (l0.length : Int)) = true := decide_eq_true c4
          clear c4
          by_cases c5 : 0 ≤ x5_1
          · rw [if_pos c5] at H
            have c5b0 : decide (0 ≤ x5_1) = true := decide_eq_true c5
            clear c5
            by_cases c6 : x5_1 < (l1.length : Int)
            · rw [if_pos c6] at H
              have c6b0 : decide (x5_1 < (l1.length : Int)) = true := decide_eq_true c6
              clear c6
              replace H := Option.bind_eq_some_iff.mp H
              obtain ⟨t125, A70, H⟩ := H
              replace H : (if t125 = true then (laws_eqSlotS.l0 k1 l0 l1 (wrap64 (x5_1 + 1))) else (some false)) = some r := H
              have A7 := Aside0.mk A70
              clear A70
              by_cases c8 : t125 = true
              · subst c8
                have H1 : (laws_eqSlotS.l0 k1 l0 l1 (wrap64 (x5_1 + 1))) = some r := by rw [if_pos rfl] at H; exact H
                clear H
                have H := H1
                clear H1
                have H' := Aside0.mk H
                clear H
                try go_wp2
                replace HB := Aside0.mk (below_drew1 HB.out)
                have p123 : 0 ≤ (x5_1 : Int) := of_decide_eq_true Kit.asm
                have q123 : x5_1 < (l0.length : Int) := of_decide_eq_true Kit.asm
                obtain ⟨ad123, A123_1, c123_1, A123_3, c123_3, e123, hx123_0, hx123_1, hx123_2, hx123_3, hx123_4, hx123_5, hx123_6, hx123_7, hl123_1, hi123_1, hl123_3, hi123_3⟩ := at_T87 HR0.out x5_1 p123 q123
                have hw123_7 := hx123_7
                have hw123_6 := hx123_6
                have hw123_5 := hx123_5
                have hw123_4 := hx123_4
                have hw123_3 := hx123_3
                have hw123_2 := hx123_2
                have hw123_1 := hx123_1
                have hw123_0 := hx123_0
                cases e123
                replace hx123_0 := Kit.hx HB.out hx123_0
                replace hx123_1 := Kit.hx HB.out hx123_1
                replace hx123_2 := Kit.hx HB.out hx123_2
                replace hx123_3 := Kit.hx HB.out hx123_3
                replace hx123_4 := Kit.hx HB.out hx123_4
                replace hx123_5 := Kit.hx HB.out hx123_5
                replace hx123_6 := Kit.hx HB.out hx123_6
                replace hx123_7 := Kit.hx HB.out hx123_7
                have HR123_1 := Aside0.mk hi123_1
                have HC123_1 := Aside0.mk hl123_1
                clear hi123_1 hl123_1
                have HR123_3 := Aside0.mk hi123_3
                have HC123_3 := Aside0.mk hl123_3
                clear hi123_3 hl123_3
                replace p123 := eq_true p123
                replace q123 := eq_true q123
                have p124 : 0 ≤ (x5_1 : Int) := of_decide_eq_true Kit.asm
                have q124 : x5_1 < (l1.length : Int) := of_decide_eq_true Kit.asm
                obtain ⟨ad124, A124_1, c124_1, A124_3, c124_3, e124, hx124_0, hx124_1, hx124_2, hx124_3, hx124_4, hx124_5, hx124_6, hx124_7, hl124_1, hi124_1, hl124_3, hi124_3⟩ := at_T87 HR1.out x5_1 p124 q124
                have hw124_7 := hx124_7
                have hw124_6 := hx124_6
                have hw124_5 := hx124_5
                have hw124_4 := hx124_4
                have hw124_3 := hx124_3
                have hw124_2 := hx124_2
                have hw124_1 := hx124_1
                have hw124_0 := hx124_0
                cases e124
                replace hx124_0 := Kit.hx HB.out hx124_0
                replace hx124_1 := Kit.hx HB.out hx124_1
                replace hx124_2 := Kit.hx HB.out hx124_2
                replace hx124_3 := Kit.hx HB.out hx124_3
                replace hx124_4 := Kit.hx HB.out hx124_4
                replace hx124_5 := Kit.hx HB.out hx124_5
                replace hx124_6 := Kit.hx HB.out hx124_6
                replace hx124_7 := Kit.hx HB.out hx124_7
                have HR124_1 := Aside0.mk hi124_1
                have HC124_1 := Aside0.mk hl124_1
                clear hi124_1 hl124_1
                have HR124_3 := Aside0.mk hi124_3
                have HC124_3 := Aside0.mk hl124_3
                clear hi124_3 hl124_3
                replace p124 := eq_true p124
                replace q124 := eq_true q124
                refine start_ (n := 10) (S := fun w' => w'.cell? (ad123.add ((x5_1).toNat * 8)) = some (.string ((rd_T87 l0 x5_1).f0.f0)) ∧ w'.cell? ⟨(ad123.add ((x5_1).toNat * 8)).block, (ad123.add ((x5_1).toNat * 8)).off + 1, none⟩ = some (.slice A123_1 ((rd_T87 l0 x5_1).f0.f1).length c123_1) ∧ w'.cell? ⟨(ad123.add ((x5_1).toNat * 8)).block, (ad123.add ((x5_1).toNat * 8)).off + 2, none⟩ = some (.int .i64 ((rd_T87 l0 x5_1).f0.f2.f0)) ∧ w'.cell? ⟨(ad123.add ((x5_1).toNat * 8)).block, (ad123.add ((x5_1).toNat * 8)).off + 3, none⟩ = some (.slice A123_3 ((rd_T87 l0 x5_1).f0.f2.f1).length c123_3) ∧ w'.cell? ⟨(ad123.add ((x5_1).toNat * 8)).block, (ad123.add ((x5_1).toNat * 8)).off + 4, none⟩ = some (.string ((rd_T87 l0 x5_1).f0.f2.f2)) ∧ w'.cell? ⟨(ad123.add ((x5_1).toNat * 8)).block, (ad123.add ((x5_1).toNat * 8)).off + 5, none⟩ = some (.int .i64 ((rd_T87 l0 x5_1).f0.f3)) ∧ w'.cell? ⟨(ad123.add ((x5_1).toNat * 8)).block, (ad123.add ((x5_1).toNat * 8)).off + 6, none⟩ = some (.int .i64 ((rd_T87 l0 x5_1).f0.f4)) ∧ w'.cell? ⟨(ad123.add ((x5_1).toNat * 8)).block, (ad123.add ((x5_1).toNat * 8)).off + 7, none⟩ = some (.bool ((rd_T87 l0 x5_1).f1)) ∧ w'.cell? (ad124.add ((x5_1).toNat * 8)) = some (.string ((rd_T87 l1 x5_1).f0.f0)) ∧ w'.cell? ⟨(ad124.add ((x5_1).toNat * 8)).block, (ad124.add ((x5_1).toNat * 8)).off + 1, none⟩ = some (.slice A124_1 ((rd_T87 l1 x5_1).f0.f1).length c124_1) ∧ w'.cell? ⟨(ad124.add ((x5_1).toNat * 8)).block, (ad124.add ((x5_1).toNat * 8)).off + 2, none⟩ = some (.int .i64 ((rd_T87 l1 x5_1).f0.f2.f0)) ∧ w'.cell? ⟨(ad124.add ((x5_1).toNat * 8)).block, (ad124.add ((x5_1).toNat * 8)).off + 3, none⟩ = some (.slice A124_3 ((rd_T87 l1 x5_1).f0.f2.f1).length c124_3) ∧ w'.cell? ⟨(ad124.add ((x5_1).toNat * 8)).block, (ad124.add ((x5_1).toNat * 8)).off + 4, none⟩ = some (.string ((rd_T87 l1 x5_1).f0.f2.f2)) ∧ w'.cell? ⟨(ad124.add ((x5_1).toNat * 8)).block, (ad124.add ((x5_1).toNat * 8)).off + 5, none⟩ = some (.int .i64 ((rd_T87 l1 x5_1).f0.f3)) ∧ w'.cell? ⟨(ad124.add ((x5_1).toNat * 8)).block, (ad124.add ((x5_1).toNat * 8)).off + 6, none⟩ = some (.int .i64 ((rd_T87 l1 x5_1).f0.f4)) ∧ w'.cell? ⟨(ad124.add ((x5_1).toNat * 8)).block, (ad124.add ((x5_1).toNat * 8)).off + 7, none⟩ = some (.bool ((rd_T87 l1 x5_1).f1))) (ds := []) #[false, false, false, false, false, false, false, false, false, false] (by kernel_rfl) rfl rfl ⟨(Kit.hx HB.out hw123_0), (Kit.hx HB.out hw123_1), (Kit.hx HB.out hw123_2), (Kit.hx HB.out hw123_3), (Kit.hx HB.out hw123_4), (Kit.hx HB.out hw123_5), (Kit.hx HB.out hw123_6), (Kit.hx HB.out hw123_7), (Kit.hx HB.out hw124_0), (Kit.hx HB.out hw124_1), (Kit.hx HB.out hw124_2), (Kit.hx HB.out hw124_3), (Kit.hx HB.out hw124_4), (Kit.hx HB.out hw124_5), (Kit.hx HB.out hw124_6), (Kit.hx HB.out hw124_7)⟩ (fun hHeld => ?_); refine with_tabW laws_eqSlotS.tab6 laws_eqSlotS.bits6 (fun HT_ HW_ => ?_)
                generalize wr.drew = w9 at HB HR123_1 HR123_3 HR124_1 HR124_3 hx123_0 hx123_1 hx123_2 hx123_3 hx123_4 hx123_5 hx123_6 hx123_7 hx124_0 hx124_1 hx124_2 hx124_3 hx124_4 hx124_5 hx124_6 hx124_7 hHeld ⊢
                refine pure_ (i := 0) (N := some 17) (v := ?_) (a' := ?_) #[true, false, false, false, false, false, false, false, false, false] rfl rfl (any_of HT_.out (by kernel_rfl)) (fun _ _ _ h => h) (Or.inl ⟨by rfl, ?_⟩) ?_ ?_
                rotate_left
                · intro w'
                  go_simp
                  with_reducible rfl
                rotate_left
                · simp only [Act.put, List.setIfInBounds_toArray, List.set_cons_zero, List.set_cons_succ, i64_w, i32_w]
                  rfl
                refine pure_ (i := 1) (N := some 18) (v := ?_) (a' := ?_) #[true, true, false, false, false, false, false, false, false, false] rfl rfl (any_of HT_.out (by kernel_rfl)) (fun _ _ _ h => h) (Or.inl ⟨by rfl, ?_⟩) ?_ ?_
                rotate_left
                · intro w'
                  go_simp
                  with_reducible rfl
                rotate_left
                · simp only [Act.put, List.setIfInBounds_toArray, List.set_cons_zero, List.set_cons_succ, i64_w, i32_w]
                  rfl
                refine pure_ (i := 2) (N := some 19) (v := ?_) (a' := ?_) #[true, true, true, false, false, false, false, false, false, false] rfl rfl (any_of HT_.out (by kernel_rfl)) (fun _ _ _ h => h) (Or.inl ⟨by rfl, ?_⟩) ?_ ?_
                rotate_left
                · intro w'
                  go_simp
                  with_reducible rfl
                rotate_left
                · simp only [Act.put, List.setIfInBounds_toArray, List.set_cons_zero, List.set_cons_succ, i64_w, i32_w]
                  rfl
                refine pure_ (i := 4) (N := some 21) (v := ?_) (a' := ?_) #[true, true, true, false, true, false, false, false, false, false] rfl rfl (any_of HT_.out (by kernel_rfl)) (fun _ _ _ h => h) (Or.inl ⟨by rfl, ?_⟩) ?_ ?_
                rotate_left
                · intro w'
                  go_simp
                  with_reducible rfl
                rotate_left
                · simp only [Act.put, List.setIfInBounds_toArray, List.set_cons_zero, List.set_cons_succ, i64_w, i32_w]
                  rfl
                refine pure_ (i := 5) (N := some 22) (v := ?_) (a' := ?_) #[true, true, true, false, true, true, false, false, false, false] rfl rfl (any_of HT_.out (by kernel_rfl)) (fun _ _ _ h => h) (Or.inl ⟨by rfl, ?_⟩) ?_ ?_
                rotate_left
                · intro w'
                  go_simp
                  with_reducible rfl
                rotate_left
                · simp only [Act.put, List.setIfInBounds_toArray, List.set_cons_zero, List.set_cons_succ, i64_w, i32_w]
                  rfl
                refine pure_ (i := 6) (N := some 23) (v := ?_) (a' := ?_) #[true, true, true, false, true, true, true, false, false, false] rfl rfl (any_of HT_.out (by kernel_rfl)) (fun _ _ _ h => h) (Or.inl ⟨by rfl, ?_⟩) ?_ ?_
                rotate_left
                · intro w'
                  go_simp
                  with_reducible rfl
                rotate_left
                · simp only [Act.put, List.setIfInBounds_toArray, List.set_cons_zero, List.set_cons_succ, i64_w, i32_w]
                  rfl
                refine take_ (i := 3) (N := some 20) (v := ?_) (a' := ?_) #[true, true, true, true, true, true, true, false, false, false] rfl rfl (take_ofW HT_.out HW_.out (by kernel_rfl)) (fun _ _ _ h => h) (Or.inl ⟨by rfl, ?_⟩) hHeld ?_ ?_
                rotate_left
                · rintro w' ⟨s0, s1, s2, s3, s4, s5, s6, s7, s8, s9, s10, s11, s12, s13, s14, s15⟩
                  go_simp
                  with_reducible rfl
                rotate_left
                · simp only [Act.put, List.setIfInBounds_toArray, List.set_cons_zero, List.set_cons_succ, i64_w, i32_w]
                  rfl
                refine take_ (i := 7) (N := some 24) (v := ?_) (a' := ?_) #[true, true, true, true, true, true, true, true, false, false] rfl rfl (take_ofW HT_.out HW_.out (by kernel_rfl)) (fun _ _ _ h => h) (Or.inl ⟨by rfl, ?_⟩) hHeld ?_ ?_
                rotate_left
                · rintro w' ⟨s0, s1, s2, s3, s4, s5, s6, s7, s8, s9, s10, s11, s12, s13, s14, s15⟩
                  go_simp
                  with_reducible rfl
                rotate_left
                · simp only [Act.put, List.setIfInBounds_toArray, List.set_cons_zero, List.set_cons_succ, i64_w, i32_w]
                  rfl
                refine one_ (i := 8) (N := some 25) #[true, true, true, true, true, true, true, true, true, false] rfl rfl (one_of HT_.out (by kernel_rfl)) (by decide) (fun K hK => ?_)
                refine goes_ Try.func87 (by kernel_rfl) rfl #[.agg #[.string ((rd_T87 l0 x5_1).f0.f0), .slice A123_1 ((rd_T87 l0 x5_1).f0.f1).length c123_1, .int .i64 ((rd_T87 l0 x5_1).f0.f2.f0), .slice A123_3 ((rd_T87 l0 x5_1).f0.f2.f1).length c123_3, .string ((rd_T87 l0 x5_1).f0.f2.f2), .int .i64 ((rd_T87 l0 x5_1).f0.f3), .int .i64 ((rd_T87 l0 x5_1).f0.f4), .bool ((rd_T87 l0 x5_1).f1)], .agg #[.string ((rd_T87 l1 x5_1).f0.f0), .slice A124_1 ((rd_T87 l1 x5_1).f0.f1).length c124_1, .int .i64 ((rd_T87 l1 x5_1).f0.f2.f0), .slice A124_3 ((rd_T87 l1 x5_1).f0.f2.f1).length c124_3, .string ((rd_T87 l1 x5_1).f0.f2.f2), .int .i64 ((rd_T87 l1 x5_1).f0.f3), .int .i64 ((rd_T87 l1 x5_1).f0.f4), .bool ((rd_T87 l1 x5_1).f1)]] (by rfl) rfl rfl Kit.am ?_
                with_reducible refine (laws_eqSlot.calls k1 ((rd_T87 l0 x5_1).f0.f0) _ _ ((rd_T87 l0 x5_1).f0.f1) ((rd_T87 l0 x5_1).f0.f2.f0) _ _ ((rd_T87 l0 x5_1).f0.f2.f1) ((rd_T87 l0 x5_1).f0.f2.f2) ((rd_T87 l0 x5_1).f0.f3) ((rd_T87 l0 x5_1).f0.f4) ((rd_T87 l0 x5_1).f1) ((rd_T87 l1 x5_1).f0.f0) _ _ ((rd_T87 l1 x5_1).f0.f1) ((rd_T87 l1 x5_1).f0.f2.f0) _ _ ((rd_T87 l1 x5_1).f0.f2.f1) ((rd_T87 l1 x5_1).f0.f2.f2) ((rd_T87 l1 x5_1).f0.f3) ((rd_T87 l1 x5_1).f0.f4) ((rd_T87 l1 x5_1).f1) true _ ?side1 ?side2 ?side3 ?side4 ?side5 ?side6 ?side7 ?side8 A7.out).mono ?_
                (case side1 => exact Kit.cr HR123_1.out HB.out)
                (case side2 => exact HC123_1.out)
                (case side3 => exact Kit.cr HR123_3.out HB.out)
                (case side4 => exact HC123_3.out)
                (case side5 => exact Kit.cr HR124_1.out HB.out)
                (case side6 => exact HC124_1.out)
                (case side7 => exact Kit.cr HR124_3.out HB.out)
                (case side8 => exact HC124_3.out)
                rintro e w10 ⟨rfl, hb⟩
                refine ⟨_, rfl, ?_⟩
                replace HB := Kit.hB hb
                (try clear hb)
                (try clear hb2)
                (try clear hk)
                (try clear hi)
                refine hK.out _ _ ⟨(Kit.hx HB.out hw123_0), (Kit.hx HB.out hw123_1), (Kit.hx HB.out hw123_2), (Kit.hx HB.out hw123_3), (Kit.hx HB.out hw123_4), (Kit.hx HB.out hw123_5), (Kit.hx HB.out hw123_6), (Kit.hx HB.out hw123_7), (Kit.hx HB.out hw124_0), (Kit.hx HB.out hw124_1), (Kit.hx HB.out hw124_2), (Kit.hx HB.out hw124_3), (Kit.hx HB.out hw124_4), (Kit.hx HB.out hw124_5), (Kit.hx HB.out hw124_6), (Kit.hx HB.out hw124_7)⟩ (fun hHeld => ?_)
                clear hK K
                refine norm_ (a' := ?_) ?_ ?_
                rotate_left
                · show Act.put _ (some 25) _ = _
                  simp only [Act.put, List.setIfInBounds_toArray, List.set_cons_zero, List.set_cons_succ, i64_w, i32_w]
                  rfl
                refine pure_ (i := 9) (N := some 26) (v := ?_) (a' := ?_) #[true, true, true, true, true, true, true, true, true, true] rfl rfl (any_of HT_.out (by kernel_rfl)) (fun _ _ _ h => h) (Or.inl ⟨by rfl, ?_⟩) ?_ ?_
                rotate_left
                · intro w'
                  go_simp
                  with_reducible rfl
                rotate_left
                · simp only [Act.put, List.setIfInBounds_toArray, List.set_cons_zero, List.set_cons_succ, i64_w, i32_w]
                  rfl
                refine done_ (done_of HT_.out (by kernel_rfl)) ?_
                try go_wp2
                go_roundg k1
                case measure => have := HK1.out; omega
                case rel => exact ⟨(wrap64 (x5_1 + 1)), (by first | rfl | (simp; done) | (simp [*]; done)), H', ⟨by have := HK1.out; omega⟩, ⟨Kit.bl⟩⟩
              · replace c8 := Bool.eq_false_iff.mpr c8
                subst c8
                have H1 : (some false) = some r := by rw [if_neg (show ¬ (false = true) by decide)] at H; exact H
                clear H
                have H := H1
                clear H1
                obtain rfl := Option.some.inj H
                try go_wp2
                replace HB := Aside0.mk (below_drew1 HB.out)
                have p123 : 0 ≤ (x5_1 : Int) := of_decide_eq_true Kit.asm
                have q123 : x5_1 < (l0.length : Int) := of_decide_eq_true Kit.asm
                obtain ⟨ad123, A123_1, c123_1, A123_3, c123_3, e123, hx123_0, hx123_1, hx123_2, hx123_3, hx123_4, hx123_5, hx123_6, hx123_7, hl123_1, hi123_1, hl123_3, hi123_3⟩ := at_T87 HR0.out x5_1 p123 q123
                have hw123_7 := hx123_7
                have hw123_6 := hx123_6
                have hw123_5 := hx123_5
                have hw123_4 := hx123_4
                have hw123_3 := hx123_3
                have hw123_2 := hx123_2
                have hw123_1 := hx123_1
                have hw123_0 := hx123_0
                cases e123
                replace hx123_0 := Kit.hx HB.out hx123_0
                replace hx123_1 := Kit.hx HB.out hx123_1
                replace hx123_2 := Kit.hx HB.out hx123_2
                replace hx123_3 := Kit.hx HB.out hx123_3
                replace hx123_4 := Kit.hx HB.out hx123_4
                replace hx123_5 := Kit.hx HB.out hx123_5
                replace hx123_6 := Kit.hx HB.out hx123_6
                replace hx123_7 := Kit.hx HB.out hx123_7
                have HR123_1 := Aside0.mk hi123_1
                have HC123_1 := Aside0.mk hl123_1
                clear hi123_1 hl123_1
                have HR123_3 := Aside0.mk hi123_3
                have HC123_3 := Aside0.mk hl123_3
                clear hi123_3 hl123_3
                replace p123 := eq_true p123
                replace q123 := eq_true q123
                have p124 : 0 ≤ (x5_1 : Int) := of_decide_eq_true Kit.asm
                have q124 : x5_1 < (l1.length : Int) := of_decide_eq_true Kit.asm
                obtain ⟨ad124, A124_1, c124_1, A124_3, c124_3, e124, hx124_0, hx124_1, hx124_2, hx124_3, hx124_4, hx124_5, hx124_6, hx124_7, hl124_1, hi124_1, hl124_3, hi124_3⟩ := at_T87 HR1.out x5_1 p124 q124
                have hw124_7 := hx124_7
                have hw124_6 := hx124_6
                have hw124_5 := hx124_5
                have hw124_4 := hx124_4
                have hw124_3 := hx124_3
                have hw124_2 := hx124_2
                have hw124_1 := hx124_1
                have hw124_0 := hx124_0
                cases e124
                replace hx124_0 := Kit.hx HB.out hx124_0
                replace hx124_1 := Kit.hx HB.out hx124_1
                replace hx124_2 := Kit.hx HB.out hx124_2
                replace hx124_3 := Kit.hx HB.out hx124_3
                replace hx124_4 := Kit.hx HB.out hx124_4
                replace hx124_5 := Kit.hx HB.out hx124_5
                replace hx124_6 := Kit.hx HB.out hx124_6
                replace hx124_7 := Kit.hx HB.out hx124_7
                have HR124_1 := Aside0.mk hi124_1
                have HC124_1 := Aside0.mk hl124_1
                clear hi124_1 hl124_1
                have HR124_3 := Aside0.mk hi124_3
                have HC124_3 := Aside0.mk hl124_3
                clear hi124_3 hl124_3
                replace p124 := eq_true p124
                replace q124 := eq_true q124
                refine start_ (n := 10) (S := fun w' => w'.cell? (ad123.add ((x5_1).toNat * 8)) = some (.string ((rd_T87 l0 x5_1).f0.f0)) ∧ w'.cell? ⟨(ad123.add ((x5_1).toNat * 8)).block, (ad123.add ((x5_1).toNat * 8)).off + 1, none⟩ = some (.slice A123_1 ((rd_T87 l0 x5_1).f0.f1).length c123_1) ∧ w'.cell? ⟨(ad123.add ((x5_1).toNat * 8)).block, (ad123.add ((x5_1).toNat * 8)).off + 2, none⟩ = some (.int .i64 ((rd_T87 l0 x5_1).f0.f2.f0)) ∧ w'.cell? ⟨(ad123.add ((x5_1).toNat * 8)).block, (ad123.add ((x5_1).toNat * 8)).off + 3, none⟩ = some (.slice A123_3 ((rd_T87 l0 x5_1).f0.f2.f1).length c123_3) ∧ w'.cell? ⟨(ad123.add ((x5_1).toNat * 8)).block, (ad123.add ((x5_1).toNat * 8)).off + 4, none⟩ = some (.string ((rd_T87 l0 x5_1).f0.f2.f2)) ∧ w'.cell? ⟨(ad123.add ((x5_1).toNat * 8)).block, (ad123.add ((x5_1).toNat * 8)).off + 5, none⟩ = some (.int .i64 ((rd_T87 l0 x5_1).f0.f3)) ∧ w'.cell? ⟨(ad123.add ((x5_1).toNat * 8)).block, (ad123.add ((x5_1).toNat * 8)).off + 6, none⟩ = some (.int .i64 ((rd_T87 l0 x5_1).f0.f4)) ∧ w'.cell? ⟨(ad123.add ((x5_1).toNat * 8)).block, (ad123.add ((x5_1).toNat * 8)).off + 7, none⟩ = some (.bool ((rd_T87 l0 x5_1).f1)) ∧ w'.cell? (ad124.add ((x5_1).toNat * 8)) = some (.string ((rd_T87 l1 x5_1).f0.f0)) ∧ w'.cell? ⟨(ad124.add ((x5_1).toNat * 8)).block, (ad124.add ((x5_1).toNat * 8)).off + 1, none⟩ = some (.slice A124_1 ((rd_T87 l1 x5_1).f0.f1).length c124_1) ∧ w'.cell? ⟨(ad124.add ((x5_1).toNat * 8)).block, (ad124.add ((x5_1).toNat * 8)).off + 2, none⟩ = some (.int .i64 ((rd_T87 l1 x5_1).f0.f2.f0)) ∧ w'.cell? ⟨(ad124.add ((x5_1).toNat * 8)).block, (ad124.add ((x5_1).toNat * 8)).off + 3, none⟩ = some (.slice A124_3 ((rd_T87 l1 x5_1).f0.f2.f1).length c124_3) ∧ w'.cell? ⟨(ad124.add ((x5_1).toNat * 8)).block, (ad124.add ((x5_1).toNat * 8)).off + 4, none⟩ = some (.string ((rd_T87 l1 x5_1).f0.f2.f2)) ∧ w'.cell? ⟨(ad124.add ((x5_1).toNat * 8)).block, (ad124.add ((x5_1).toNat * 8)).off + 5, none⟩ = some (.int .i64 ((rd_T87 l1 x5_1).f0.f3)) ∧ w'.cell? ⟨(ad124.add ((x5_1).toNat * 8)).block, (ad124.add ((x5_1).toNat * 8)).off + 6, none⟩ = some (.int .i64 ((rd_T87 l1 x5_1).f0.f4)) ∧ w'.cell? ⟨(ad124.add ((x5_1).toNat * 8)).block, (ad124.add ((x5_1).toNat * 8)).off + 7, none⟩ = some (.bool ((rd_T87 l1 x5_1).f1))) (ds := []) #[false, false, false, false, false, false, false, false, false, false] (by kernel_rfl) rfl rfl ⟨(Kit.hx HB.out hw123_0), (Kit.hx HB.out hw123_1), (Kit.hx HB.out hw123_2), (Kit.hx HB.out hw123_3), (Kit.hx HB.out hw123_4), (Kit.hx HB.out hw123_5), (Kit.hx HB.out hw123_6), (Kit.hx HB.out hw123_7), (Kit.hx HB.out hw124_0), (Kit.hx HB.out hw124_1), (Kit.hx HB.out hw124_2), (Kit.hx HB.out hw124_3), (Kit.hx HB.out hw124_4), (Kit.hx HB.out hw124_5), (Kit.hx HB.out hw124_6), (Kit.hx HB.out hw124_7)⟩ (fun hHeld => ?_); refine with_tabW laws_eqSlotS.tab6 laws_eqSlotS.bits6 (fun HT_ HW_ => ?_)
                generalize wr.drew = w11 at HB HR123_1 HR123_3 HR124_1 HR124_3 hx123_0 hx123_1 hx123_2 hx123_3 hx123_4 hx123_5 hx123_6 hx123_7 hx124_0 hx124_1 hx124_2 hx124_3 hx124_4 hx124_5 hx124_6 hx124_7 hHeld ⊢
                refine pure_ (i := 0) (N := some 17) (v := ?_) (a' := ?_) #[true, false, false, false, false, false, false, false, false, false] rfl rfl (any_of HT_.out (by kernel_rfl)) (fun _ _ _ h => h) (Or.inl ⟨by rfl, ?_⟩) ?_ ?_
                rotate_left
                · intro w'
                  go_simp
                  with_reducible rfl
                rotate_left
                · simp only [Act.put, List.setIfInBounds_toArray, List.set_cons_zero, List.set_cons_succ, i64_w, i32_w]
                  rfl
                refine pure_ (i := 1) (N := some 18) (v := ?_) (a' := ?_) #[true, true, false, false, false, false, false, false, false, false] rfl rfl (any_of HT_.out (by kernel_rfl)) (fun _ _ _ h => h) (Or.inl ⟨by rfl, ?_⟩) ?_ ?_
                rotate_left
                · intro w'
                  go_simp
                  with_reducible rfl
                rotate_left
                · simp only [Act.put, List.setIfInBounds_toArray, List.set_cons_zero, List.set_cons_succ, i64_w, i32_w]
                  rfl
                refine pure_ (i := 2) (N := some 19) (v := ?_) (a' := ?_) #[true, true, true, false, false, false, false, false, false, false] rfl rfl (any_of HT_.out (by kernel_rfl)) (fun _ _ _ h => h) (Or.inl ⟨by rfl, ?_⟩) ?_ ?_
                rotate_left
                · intro w'
                  go_simp
                  with_reducible rfl
                rotate_left
                · simp only [Act.put, List.setIfInBounds_toArray, List.set_cons_zero, List.set_cons_succ, i64_w, i32_w]
                  rfl
                refine pure_ (i := 4) (N := some 21) (v := ?_) (a' := ?_) #[true, true, true, false, true, false, false, false, false, false] rfl rfl (any_of HT_.out (by kernel_rfl)) (fun _ _ _ h => h) (Or.inl ⟨by rfl, ?_⟩) ?_ ?_
                rotate_left
                · intro w'
                  go_simp
                  with_reducible rfl
                rotate_left
                · simp only [Act.put, List.setIfInBounds_toArray, List.set_cons_zero, List.set_cons_succ, i64_w, i32_w]
                  rfl
                refine pure_ (i := 5) (N := some 22) (v := ?_) (a' := ?_) #[true, true, true, false, true, true, false, false, false, false] rfl rfl (any_of HT_.out (by kernel_rfl)) (fun _ _ _ h => h) (Or.inl ⟨by rfl, ?_⟩) ?_ ?_
                rotate_left
                · intro w'
                  go_simp
                  with_reducible rfl
                rotate_left
                · simp only [Act.put, List.setIfInBounds_toArray, List.set_cons_zero, List.set_cons_succ, i64_w, i32_w]
                  rfl
                refine pure_ (i := 6) (N := some 23) (v := ?_) (a' := ?_) #[true, true, true, false, true, true, true, false, false, false] rfl rfl (any_of HT_.out (by kernel_rfl)) (fun _ _ _ h => h) (Or.inl ⟨by rfl, ?_⟩) ?_ ?_
                rotate_left
                · intro w'
                  go_simp
                  with_reducible rfl
                rotate_left
                · simp only [Act.put, List.setIfInBounds_toArray, List.set_cons_zero, List.set_cons_succ, i64_w, i32_w]
                  rfl
                refine take_ (i := 3) (N := some 20) (v := ?_) (a' := ?_) #[true, true, true, true, true, true, true, false, false, false] rfl rfl (take_ofW HT_.out HW_.out (by kernel_rfl)) (fun _ _ _ h => h) (Or.inl ⟨by rfl, ?_⟩) hHeld ?_ ?_
                rotate_left
                · rintro w' ⟨s0, s1, s2, s3, s4, s5, s6, s7, s8, s9, s10, s11, s12, s13, s14, s15⟩
                  go_simp
                  with_reducible rfl
                rotate_left
                · simp only [Act.put, List.setIfInBounds_toArray, List.set_cons_zero, List.set_cons_succ, i64_w, i32_w]
                  rfl
                refine take_ (i := 7) (N := some 24) (v := ?_) (a' := ?_) #[true, true, true, true, true, true, true, true, false, false] rfl rfl (take_ofW HT_.out HW_.out (by kernel_rfl)) (fun _ _ _ h => h) (Or.inl ⟨by rfl, ?_⟩) hHeld ?_ ?_
                rotate_left
                · rintro w' ⟨s0, s1, s2, s3, s4, s5, s6, s7, s8, s9, s10, s11, s12, s13, s14, s15⟩
                  go_simp
                  with_reducible rfl
                rotate_left
                · simp only [Act.put, List.setIfInBounds_toArray, List.set_cons_zero, List.set_cons_succ, i64_w, i32_w]
                  rfl
                refine one_ (i := 8) (N := some 25) #[true, true, true, true, true, true, true, true, true, false] rfl rfl (one_of HT_.out (by kernel_rfl)) (by decide) (fun K hK => ?_)
                refine goes_ Try.func87 (by kernel_rfl) rfl #[.agg #[.string ((rd_T87 l0 x5_1).f0.f0), .slice A123_1 ((rd_T87 l0 x5_1).f0.f1).length c123_1, .int .i64 ((rd_T87 l0 x5_1).f0.f2.f0), .slice A123_3 ((rd_T87 l0 x5_1).f0.f2.f1).length c123_3, .string ((rd_T87 l0 x5_1).f0.f2.f2), .int .i64 ((rd_T87 l0 x5_1).f0.f3), .int .i64 ((rd_T87 l0 x5_1).f0.f4), .bool ((rd_T87 l0 x5_1).f1)], .agg #[.string ((rd_T87 l1 x5_1).f0.f0), .slice A124_1 ((rd_T87 l1 x5_1).f0.f1).length c124_1, .int .i64 ((rd_T87 l1 x5_1).f0.f2.f0), .slice A124_3 ((rd_T87 l1 x5_1).f0.f2.f1).length c124_3, .string ((rd_T87 l1 x5_1).f0.f2.f2), .int .i64 ((rd_T87 l1 x5_1).f0.f3), .int .i64 ((rd_T87 l1 x5_1).f0.f4), .bool ((rd_T87 l1 x5_1).f1)]] (by rfl) rfl rfl Kit.am ?_
                with_reducible refine (laws_eqSlot.calls k1 ((rd_T87 l0 x5_1).f0.f0) _ _ ((rd_T87 l0 x5_1).f0.f1) ((rd_T87 l0 x5_1).f0.f2.f0) _ _ ((rd_T87 l0 x5_1).f0.f2.f1) ((rd_T87 l0 x5_1).f0.f2.f2) ((rd_T87 l0 x5_1).f0.f3) ((rd_T87 l0 x5_1).f0.f4) ((rd_T87 l0 x5_1).f1) ((rd_T87 l1 x5_1).f0.f0) _ _ ((rd_T87 l1 x5_1).f0.f1) ((rd_T87 l1 x5_1).f0.f2.f0) _ _ ((rd_T87 l1 x5_1).f0.f2.f1) ((rd_T87 l1 x5_1).f0.f2.f2) ((rd_T87 l1 x5_1).f0.f3) ((rd_T87 l1 x5_1).f0.f4) ((rd_T87 l1 x5_1).f1) false _ ?side1 ?side2 ?side3 ?side4 ?side5 ?side6 ?side7 ?side8 A7.out).mono ?_
                (case side1 => exact Kit.cr HR123_1.out HB.out)
                (case side2 => exact HC123_1.out)
                (case side3 => exact Kit.cr HR123_3.out HB.out)
                (case side4 => exact HC123_3.out)
                (case side5 => exact Kit.cr HR124_1.out HB.out)
                (case side6 => exact HC124_1.out)
                (case side7 => exact Kit.cr HR124_3.out HB.out)
                (case side8 => exact HC124_3.out)
                rintro e w12 ⟨rfl, hb⟩
                refine ⟨_, rfl, ?_⟩
                replace HB := Kit.hB hb
                (try clear hb)
                (try clear hb2)
                (try clear hk)
                (try clear hi)
                refine hK.out _ _ ⟨(Kit.hx HB.out hw123_0), (Kit.hx HB.out hw123_1), (Kit.hx HB.out hw123_2), (Kit.hx HB.out hw123_3), (Kit.hx HB.out hw123_4), (Kit.hx HB.out hw123_5), (Kit.hx HB.out hw123_6), (Kit.hx HB.out hw123_7), (Kit.hx HB.out hw124_0), (Kit.hx HB.out hw124_1), (Kit.hx HB.out hw124_2), (Kit.hx HB.out hw124_3), (Kit.hx HB.out hw124_4), (Kit.hx HB.out hw124_5), (Kit.hx HB.out hw124_6), (Kit.hx HB.out hw124_7)⟩ (fun hHeld => ?_)
                clear hK K
                refine norm_ (a' := ?_) ?_ ?_
                rotate_left
                · show Act.put _ (some 25) _ = _
                  simp only [Act.put, List.setIfInBounds_toArray, List.set_cons_zero, List.set_cons_succ, i64_w, i32_w]
                  rfl
                refine pure_ (i := 9) (N := some 26) (v := ?_) (a' := ?_) #[true, true, true, true, true, true, true, true, true, true] rfl rfl (any_of HT_.out (by kernel_rfl)) (fun _ _ _ h => h) (Or.inl ⟨by rfl, ?_⟩) ?_ ?_
                rotate_left
                · intro w'
                  go_simp
                  with_reducible rfl
                rotate_left
                · simp only [Act.put, List.setIfInBounds_toArray, List.set_cons_zero, List.set_cons_succ, i64_w, i32_w]
                  rfl
                refine done_ (done_of HT_.out (by kernel_rfl)) ?_
                try go_wp2
                go_ret
                exact ⟨Kit.er, Kit.bl⟩
            · rw [if_neg c6] at H
              exact absurd H (by simp)
          · rw [if_neg c5] at H
            exact absurd H (by simp)
        · rw [if_neg c4] at H
          have c4b0 : decide (x5_1 < (l0.length : Int)) = false := decide_eq_false c4
          clear c4
          obtain rfl := Option.some.inj H
          go_wp2
          go_ret
          exact ⟨Kit.er, Kit.bl⟩
  · rw [if_neg c3] at H
    have c3b0 : ((l0.length : Int) == (l1.length : Int)) = false := beq_eq_false_iff_ne.mpr c3
    have c3b1 : ((l0.length : Int) != (l1.length : Int)) = true := bne_iff_ne.mpr c3
    have c3b2 : (l0.length == l1.length) = false := by first | simpa using c3 | (simp at c3 ⊢; omega)
    obtain rfl := Option.some.inj H
    go_enter Try.func64, Try.ntmps64
    go_wp2
    go_ret
    exact ⟨Kit.er, Kit.bl⟩

/-! ### laws_eqShard: function 37 -/
def laws_eqShard.f (k : Nat) (a0_0 : Int) (a0_1 : Int) (l0_2 : List (S87)) (a0_3 : Int) (a1_0 : Int) (a1_1 : Int) (l1_2 : List (S87)) (a1_3 : Int) : Option (Bool) := if a0_0 = a1_0 then (if a0_1 = a1_1 then ((laws_eqSlotS.f k l0_2 l1_2).bind fun t128 => (if t128 = true then (if a0_3 = a1_3 then (some true) else (some false)) else (some false))) else (some false)) else (some false)
theorem laws_eqShard.mono : ∀ a0 a1 a2 a3 a4 a5 a6 a7 k, LeO (laws_eqShard.f k a0 a1 a2 a3 a4 a5 a6 a7) (laws_eqShard.f (k + 1) a0 a1 a2 a3 a4 a5 a6 a7) := by
  intro a0 a1 a2 a3 a4 a5 a6 a7 k
  unfold laws_eqShard.f
  repeat' first
      | (with_reducible exact laws_eqSlotS.mono _ _ _)
      | (with_reducible exact LeO.refl _)
      | (with_reducible exact LeO.none _)
      | (with_reducible refine LeO.ite ?_ ?_)
      | (with_reducible refine LeO.bind ?_ (fun _ => ?_))
      | exact laws_eqSlotS.mono _ _ _
      | exact LeO.none _
      | refine LeO.ite ?_ ?_
      | refine LeO.bind ?_ (fun _ => ?_)
set_option maxHeartbeats 8000000 in
set_option maxRecDepth 100000 in
theorem laws_eqShard.calls (k : Nat) (a0_0 : Int) (a0_1 : Int) (A0_2 : Option Addr) (c0_2 : Nat) (l0_2 : List (S87)) (a0_3 : Int) (a1_0 : Int) (a1_1 : Int) (A1_2 : Option Addr) (c1_2 : Nat) (l1_2 : List (S87)) (a1_3 : Int) (r : Bool) (w : World) (hr0_2 : Kd.C k87 w A0_2 l0_2.length l0_2) (hc0_2 : l0_2.length ≤ c0_2) (hr1_2 : Kd.C k87 w A1_2 l1_2.length l1_2) (hc1_2 : l1_2.length ≤ c1_2) (h : laws_eqShard.f k a0_0 a0_1 l0_2 a0_3 a1_0 a1_1 l1_2 a1_3 = some r) :
    Calls Try.prog 37 #[.agg #[.int .i64 a0_0, .int .i64 a0_1, .slice A0_2 l0_2.length c0_2, .int .i64 a0_3], .agg #[.int .i64 a1_0, .int .i64 a1_1, .slice A1_2 l1_2.length c1_2, .int .i64 a1_3]] w fun e w' => e = .returned (.bool r) ∧ Below w.heap.size w w' := by
  have hu51 := Try.underlying51
  have HR0_2 := Aside0.mk hr0_2
  have HC0_2 := Aside0.mk hc0_2
  clear hr0_2 hc0_2
  have HR1_2 := Aside0.mk hr1_2
  have HC1_2 := Aside0.mk hc1_2
  clear hr1_2 hc1_2
  have HB := Aside0.mk (Below.refl w.heap.size w)
  have H : (if a0_0 = a1_0 then (if a0_1 = a1_1 then ((laws_eqSlotS.f k l0_2 l1_2).bind fun t128 => (if t128 = true then (if a0_3 = a1_3 then (some true) else (some false)) else (some false))) else (some false)) else (some false)) = some r := h
  clear h
  by_cases c3 : a0_0 = a1_0
  rw [if_pos c3] at H
  have c3b0 : (a0_0 == a1_0) = true := beq_iff_eq.mpr c3
  have c3b1 : (a0_0 != a1_0) = false := bne_eq_false_iff_eq.mpr c3
  clear c3
  by_cases c4 : a0_1 = a1_1
  rw [if_pos c4] at H
  have c4b0 : (a0_1 == a1_1) = true := beq_iff_eq.mpr c4
  have c4b1 : (a0_1 != a1_1) = false := bne_eq_false_iff_eq.mpr c4
  clear c4
  replace H := Option.bind_eq_some_iff.mp H
  obtain ⟨t128, A50, H⟩ := H
  replace H : (if t128 = true then (if a0_3 = a1_3 then (some true) else (some false)) else (some false)) = some r := H
  have A5 := Aside0.mk A50
  clear A50
  by_cases c6 : t128 = true
  subst c6
  have H1 : (if a0_3 = a1_3 then (some true) else (some false)) = some r := by rw [if_pos rfl] at H; exact H
  clear H
  have H := H1
  clear H1
  by_cases c7 : a0_3 = a1_3
  rw [if_pos c7] at H
  have c7b0 : (a0_3 == a1_3) = true := beq_iff_eq.mpr c7
  have c7b1 : (a0_3 != a1_3) = false := bne_eq_false_iff_eq.mpr c7
  clear c7
  obtain rfl := Option.some.inj H
  rotate_left
  rw [if_neg c7] at H
  have c7b0 : (a0_3 == a1_3) = false := beq_eq_false_iff_ne.mpr c7
  have c7b1 : (a0_3 != a1_3) = true := bne_iff_ne.mpr c7
  obtain rfl := Option.some.inj H
  rotate_left
  replace c6 := Bool.eq_false_iff.mpr c6
  subst c6
  have H1 : (some false) = some r := by rw [if_neg (show ¬ (false = true) by decide)] at H; exact H
  clear H
  have H := H1
  clear H1
  obtain rfl := Option.some.inj H
  rotate_left
  rw [if_neg c4] at H
  have c4b0 : (a0_1 == a1_1) = false := beq_eq_false_iff_ne.mpr c4
  have c4b1 : (a0_1 != a1_1) = true := bne_iff_ne.mpr c4
  obtain rfl := Option.some.inj H
  rotate_left
  rw [if_neg c3] at H
  have c3b0 : (a0_0 == a1_0) = false := beq_eq_false_iff_ne.mpr c3
  have c3b1 : (a0_0 != a1_0) = true := bne_iff_ne.mpr c3
  obtain rfl := Option.some.inj H
  rotate_left
  all_goals
    go_enter Try.func37, Try.ntmps37
    go_wp2_with (first | ((with_reducible refine gate_dst (N := 2) rfl ?_); refine box_event ?hg (N := 2) ?hd (cs := #[.int .i64 a0_0, .int .i64 a0_1, .slice A0_2 l0_2.length c0_2, .int .i64 a0_3]) (t := 51) ?hr ?_; (case hd => rfl); (case hg => rfl); (case hr => exact Kit.hr); intro gb126 hg w16 hbox hb; have BK126 := Aside0.mk (hbox); have GW126 := Kit.gX (w := w) hg; have GE126 := GW126; replace HB := Kit.hB hb; clear hb hbox hg) | ((with_reducible refine gate_dst (N := 3) rfl ?_); refine box_event ?hg (N := 3) ?hd (cs := #[.int .i64 a1_0, .int .i64 a1_1, .slice A1_2 l1_2.length c1_2, .int .i64 a1_3]) (t := 51) ?hr ?_; (case hd => rfl); (case hg => rfl); (case hr => exact Kit.hr); intro gb127 hg w17 hbox hb; have BK127 := Aside0.mk (hbox); have GW127 := Kit.gX (w := w) hg; have GE127 := GW127; replace HB := Kit.hB hb; have NB126_127 := Aside0.mk (Kit.nlt hg BK126.out); have NB127_126 := Aside0.mk (Kit.ngt hg BK126.out); replace BK126 := Kit.bB BK126 hb; clear hb hbox hg; have hnb18 := NB126_127.out; have hnc18 := NB127_126.out; obtain ⟨hcz19_0, hcz19_1, hcz19_2, hcz19_3, hfz19_0, hfz19_1, hfz19_2, hfz19_3⟩ := Kit.c4 BK126.out; obtain ⟨hcz20_0, hcz20_1, hcz20_2, hcz20_3, hfz20_0, hfz20_1, hfz20_2, hfz20_3⟩ := Kit.c4 BK127.out) | ((with_reducible refine gate_callee (f := 64) rfl ?_); refine goesL_ (some 19) rfl rfl Try.func64 (by kernel_rfl) rfl #[.slice A0_2 l0_2.length c0_2, .slice A1_2 l1_2.length c1_2] rfl Kit.am ?_; (with_reducible refine (laws_eqSlotS.calls k _ _ l0_2 _ _ l1_2 _ _ ?side1 ?side2 ?side3 ?side4 A5.out).mono ?_); (case side1 => exact Kit.cr HR0_2.out HB.out); (case side2 => exact HC0_2.out); (case side3 => exact Kit.cr HR1_2.out HB.out); (case side4 => exact HC1_2.out); rintro e w21 ⟨rfl, hb⟩; refine ⟨_, rfl, ?_⟩; replace BK126 := Kit.bB BK126 hb; replace BK127 := Kit.bB BK127 hb; replace HB := Kit.hB hb; (try clear hb); (try clear hb2); (try clear hk); (try clear hi); obtain ⟨hcz22_0, hcz22_1, hcz22_2, hcz22_3, hfz22_0, hfz22_1, hfz22_2, hfz22_3⟩ := Kit.c4 BK126.out; obtain ⟨hcz23_0, hcz23_1, hcz23_2, hcz23_3, hfz23_0, hfz23_1, hfz23_2, hfz23_3⟩ := Kit.c4 BK127.out))
    go_ret
    exact ⟨Kit.er, Kit.bl⟩

/-! ### laws_markSlotS: function 65, over no element -/
def laws_markSlotS.f (l0 : List (S87)) (a1 : Int) : Option (Int) := if l0.length = 0 then some a1 else none
set_option maxHeartbeats 8000000 in
set_option maxRecDepth 100000 in
theorem laws_markSlotS.calls (A0 : Option Addr) (c0 : Nat) (l0 : List (S87)) (a1 : Int) (r : Int) (w : World) (hr0 : Kd.C k87 w A0 l0.length l0) (hc0 : l0.length ≤ c0) (h : laws_markSlotS.f l0 a1 = some r) :
    Calls Try.prog 65 #[.slice A0 l0.length c0, .int .i64 a1] w fun e w' => e = .returned (.int .i64 r) ∧ Below w.heap.size w w' := by
  unfold laws_markSlotS.f at h
  split at h
  case isFalse => cases h
  case isTrue hl =>
    obtain rfl := Option.some.inj h
    obtain rfl : l0 = [] := List.length_eq_zero_iff.mp hl
    clear h hl hr0 hc0
    go_enter Try.func65, Try.ntmps65
    go_wp2
    go_loopg [1, 5] 0 (fun gg v1 v5 wr => v1 = .int .i64 a1 ∧ v5 = .int .i64 0 ∧ wr = w)
    case atStart => exact ⟨rfl, rfl, rfl⟩
    case round =>
      obtain ⟨rfl, rfl, rfl⟩ := hrel
      go_wp2
      go_ret
      exact ⟨rfl, Below.refl _ _⟩

/-! ### laws_markShard: function 38 -/
def laws_markShard.f (a0_0 : Int) (a0_1 : Int) (l0_2 : List (S87)) (a0_3 : Int) (a1 : Int) : Option (Int) := (laws_markSlotS.f l0_2 a1).bind fun t130 => (some t130)
set_option maxHeartbeats 8000000 in
set_option maxRecDepth 100000 in
theorem laws_markShard.calls (a0_0 : Int) (a0_1 : Int) (A0_2 : Option Addr) (c0_2 : Nat) (l0_2 : List (S87)) (a0_3 : Int) (a1 : Int) (r : Int) (w : World) (hr0_2 : Kd.C k87 w A0_2 l0_2.length l0_2) (hc0_2 : l0_2.length ≤ c0_2) (h : laws_markShard.f a0_0 a0_1 l0_2 a0_3 a1 = some r) :
    Calls Try.prog 38 #[.agg #[.int .i64 a0_0, .int .i64 a0_1, .slice A0_2 l0_2.length c0_2, .int .i64 a0_3], .int .i64 a1] w fun e w' => e = .returned (.int .i64 r) ∧ Below w.heap.size w w' := by
  have hu51 := Try.underlying51
  have HR0_2 := Aside0.mk hr0_2
  have HC0_2 := Aside0.mk hc0_2
  clear hr0_2 hc0_2
  have HB := Aside0.mk (Below.refl w.heap.size w)
  have H : ((laws_markSlotS.f l0_2 a1).bind fun t130 => (some t130)) = some r := h
  clear h
  replace H := Option.bind_eq_some_iff.mp H
  obtain ⟨t130, A30, H⟩ := H
  replace H : (some t130) = some r := H
  have A3 := Aside0.mk A30
  clear A30
  obtain rfl := Option.some.inj H
  go_enter Try.func38, Try.ntmps38
  go_wp2_with (first | ((with_reducible refine gate_dst (N := 2) rfl ?_); refine box_event ?hg (N := 2) ?hd (cs := #[.int .i64 a0_0, .int .i64 a0_1, .slice A0_2 l0_2.length c0_2, .int .i64 a0_3]) (t := 51) ?hr ?_; (case hd => rfl); (case hg => rfl); (case hr => exact Kit.hr); intro gb129 hg w4 hbox hb; have BK129 := Aside0.mk (hbox); have GW129 := Kit.gX (w := w) hg; have GE129 := GW129; replace HB := Kit.hB hb; clear hb hbox hg; obtain ⟨hcz5_0, hcz5_1, hcz5_2, hcz5_3, hfz5_0, hfz5_1, hfz5_2, hfz5_3⟩ := Kit.c4 BK129.out) | ((with_reducible refine gate_callee (f := 65) rfl ?_); refine goesL_ (some 8) rfl rfl Try.func65 (by kernel_rfl) rfl #[.slice A0_2 l0_2.length c0_2, .int .i64 a1] rfl Kit.am ?_; (with_reducible refine (laws_markSlotS.calls _ _ l0_2 a1 t130 _ ?side1 ?side2 A3.out).mono ?_); (case side1 => exact Kit.cr HR0_2.out HB.out); (case side2 => exact HC0_2.out); rintro e w6 ⟨rfl, hb⟩; refine ⟨_, rfl, ?_⟩; replace BK129 := Kit.bB BK129 hb; replace HB := Kit.hB hb; (try clear hb); (try clear hb2); (try clear hk); (try clear hi)))
  go_ret
  exact ⟨Kit.er, Kit.bl⟩

/-! ### laws_markText: function 78 -/
def laws_markText.l0 : Nat → Int → ByteArray → Option (ByteArray)
  | 0, _, _ => none
  | k + 1, x0, x3 => if x0 > 0 then ((some (([(wrap64 (48 + (Int.tmod x0 10))) % 256] : List Int) : List Int)).bind fun y131 => (if (strOfNums y131).size + x3.size ≤ 9223372036854775807 then (laws_markText.l0 k (wrap64 (Int.tdiv x0 10)) ((strOfNums y131) ++ x3)) else (none))) else (if 1 + x3.size ≤ 9223372036854775807 then (some ((⟨#[109]⟩ : ByteArray) ++ x3)) else (none))
def laws_markText.f (k : Nat) (a0 : Int) : Option (ByteArray) := if a0 ≤ 0 then (some (⟨#[109, 48]⟩ : ByteArray)) else (laws_markText.l0 k a0 (⟨#[]⟩ : ByteArray))
theorem laws_markText.mono_l : ∀ k, (∀ y0 y1, LeO (laws_markText.l0 k y0 y1) (laws_markText.l0 (k + 1) y0 y1))
  | 0 => fun _ _ r h => by simp [laws_markText.l0] at h
  | k + 1 => by
    have ih0 := laws_markText.mono_l k
    · intro y0 y1
      unfold laws_markText.l0
      repeat' first
      | (with_reducible exact ih0 _ _)
      | (with_reducible exact LeO.refl _)
      | (with_reducible exact LeO.none _)
      | (with_reducible refine LeO.ite ?_ ?_)
      | (with_reducible refine LeO.bind ?_ (fun _ => ?_))
      | exact ih0 _ _
      | exact LeO.none _
      | refine LeO.ite ?_ ?_
      | refine LeO.bind ?_ (fun _ => ?_)
theorem laws_markText.mono : ∀ a0 k, LeO (laws_markText.f k a0) (laws_markText.f (k + 1) a0) := by
  intro a0 k
  have ih0 := laws_markText.mono_l k
  unfold laws_markText.f
  repeat' first
      | (with_reducible exact ih0 _ _)
      | (with_reducible exact LeO.refl _)
      | (with_reducible exact LeO.none _)
      | (with_reducible refine LeO.ite ?_ ?_)
      | (with_reducible refine LeO.bind ?_ (fun _ => ?_))
      | exact ih0 _ _
      | exact LeO.none _
      | refine LeO.ite ?_ ?_
      | refine LeO.bind ?_ (fun _ => ?_)
set_option maxHeartbeats 8000000 in
set_option maxRecDepth 100000 in
theorem laws_markText.calls (k : Nat) (a0 : Int) (r : ByteArray) (w : World) (h : laws_markText.f k a0 = some r) :
    Calls Try.prog 78 #[.int .i64 a0] w fun e w' => e = .returned (.string r) ∧ Below w.heap.size w w' := by
  have HB := Aside0.mk (Below.refl w.heap.size w)
  have H : (if a0 ≤ 0 then (some (⟨#[109, 48]⟩ : ByteArray)) else (laws_markText.l0 k a0 (⟨#[]⟩ : ByteArray))) = some r := h
  clear h
  by_cases c2 : a0 ≤ 0
  · rw [if_pos c2] at H
    have c2b0 : decide (a0 ≤ 0) = true := decide_eq_true c2
    clear c2
    obtain rfl := Option.some.inj H
    go_enter Try.func78, Try.ntmps78
    go_wp2
    go_ret
    exact ⟨Kit.er, Kit.bl⟩
  · rw [if_neg c2] at H
    have c2b0 : decide (a0 ≤ 0) = false := decide_eq_false c2
    clear c2
    have H' := Aside0.mk H
    clear H
    go_enter Try.func78, Try.ntmps78
    go_wp2
    go_loopg [0, 3] k (fun kq v0 v3 w' => ∃ (x0_1 : Int) (x3_1 : ByteArray), v0 = .int .i64 x0_1 ∧ v3 = .string x3_1 ∧ Aside0 (laws_markText.l0 kq x0_1 x3_1 = some r) ∧ Aside0 (kq ≤ k) ∧ Aside0 (Below w.heap.size w w'))
    case atStart => exact ⟨(a0), ((⟨#[]⟩ : ByteArray)), (by first | rfl | (simp; done) | (simp [*]; done)), (by first | rfl | (simp; done) | (simp [*]; done)), H', ⟨Nat.le_refl _⟩, ⟨Kit.bl⟩⟩
    case round =>
      clear H'
      try clear c2
      try clear c2b0
      try clear p2
      obtain ⟨x0_1, x3_1, rfl, rfl, HA, HK1, HB⟩ := hrel
      cases gk with
      | zero => exact absurd HA.out (by simp [laws_markText.l0])
      | succ k1 =>
        have H := HA.out
        clear HA
        simp only [laws_markText.l0] at H
        by_cases c3 : x0_1 > 0
        · rw [if_pos c3] at H
          have c3b0 : decide (0 < x0_1) = true := decide_eq_true c3
          clear c3
          obtain ⟨y131, hy131⟩ : ∃ y_ : List Int, y_ = (([(wrap64 (48 + (Int.tmod x0_1 10))) % 256] : List Int)) := ⟨_, rfl⟩
          replace H : (if (strOfNums y131).size + x3_1.size ≤ 9223372036854775807 then (laws_markText.l0 k1 (wrap64 (Int.tdiv x0_1 10)) ((strOfNums y131) ++ x3_1)) else (none)) = some r := by first | (rw [hy131]; with_reducible exact H) | (have H2_ := (Option.bind_some _ _).symm.trans H; rw [hy131]; with_reducible exact H2_) | (have H2_ := (Option.bind_some _ _).symm.trans H; with_reducible exact H2_) | with_reducible exact H | (rw [hy131]; exact H) | exact H
          have Ny131 := Aside0.mk hy131
          clear hy131
          by_cases c4 : (strOfNums y131).size + x3_1.size ≤ 9223372036854775807
          · rw [if_pos c4] at H
            have c4b0 := eq_true c4
            have c4b1 : decide ((strOfNums y131).size + x3_1.size ≤ 9223372036854775807) = true := decide_eq_true c4
            try have c4b2 : (9223372036854775807 < (strOfNums y131).size + x3_1.size) = False := eq_false (Nat.not_lt.2 c4)
            have H' := Aside0.mk H
            clear H
            go_wp2_with (first | ((with_reducible refine gate_dst (N := 12) rfl ?_); refine Kd.R_lit (Kd.int .u8) _ 5 ?hg (N := 12) ?hd (xs := ([(wrap64 (48 + (Int.tmod x0_1 10))) % 256] : List Int)) (inner := [.int .u8 ((wrap64 (48 + (Int.tmod x0_1 10))) % 256)]) (ok := fun _ => True) (okp := fun _ => True) ?hr ?hp (fun _ hk => hk) trivial (Below.refl _ _) (Nat.le_refl _) (by simp) ?_; (case hd => rfl); (case hg => rfl); (case hr => first | (go_simp; done) | (go_simp; rfl)); (case hp => exact (Reps.one (show Kd.M (Kd.int .u8) _ _ _ ((wrap64 (48 + (Int.tmod x0_1 10))) % 256) [.int .u8 ((wrap64 (48 + (Int.tmod x0_1 10))) % 256)] from rfl) (Reps.none _ _))); intro v132 w5 ho6 hb hg_ hnew_; clear hg_ hnew_; (first | rw [← Ny131.out] at ho6 | (simp only [Int.reduceToNat] at ho6; rw [← Ny131.out] at ho6)); have HO133 := Aside0.mk (Kd.R_lower ho6 Kit.bz); replace HB := Kit.hB hb; clear hb ho6; have hcv7 := own_string (P := Try.prog) Try.underlying111 Try.underlying5 Try.underlying9 (Kd.own_of_R HO133.out)))
            go_roundg k1
            case measure => have := HK1.out; omega
            case rel => exact ⟨(wrap64 (Int.tdiv x0_1 10)), ((strOfNums y131) ++ x3_1), (by first | rfl | (simp; done) | (simp [*]; done)), (by first | rfl | (simp; done) | (simp [*]; done)), H', ⟨by have := HK1.out; omega⟩, ⟨Kit.bl⟩⟩
          · rw [if_neg c4] at H
            exact absurd H (by simp)
        · rw [if_neg c3] at H
          have c3b0 : decide (0 < x0_1) = false := decide_eq_false c3
          clear c3
          by_cases c8 : 1 + x3_1.size ≤ 9223372036854775807
          · rw [if_pos c8] at H
            have c8b0 := eq_true c8
            have c8b1 : decide (1 + x3_1.size ≤ 9223372036854775807) = true := decide_eq_true c8
            try have c8b2 : (9223372036854775807 < 1 + x3_1.size) = False := eq_false (Nat.not_lt.2 c8)
            obtain rfl := Option.some.inj H
            go_wp2
            go_ret
            exact ⟨Kit.er, Kit.bl⟩
          · rw [if_neg c8] at H
            exact absurd H (by simp)

end Go.Proofs.Ytlhnhilaeoegoaa.QFnExactShardNew
