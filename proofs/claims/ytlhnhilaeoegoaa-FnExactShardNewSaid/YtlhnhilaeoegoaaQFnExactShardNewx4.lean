-- Written by own.py, a program of this session's own, which calls the kit's print. Lean checks it.
import Derived.Test.YtlhnhilaeoegoaaQFnExactShardNewx0
import Derived.Test.YtlhnhilaeoegoaaQFnExactShardNewx2
import Derived.Test.YtlhnhilaeoegoaaQFnExactShardNewx3
namespace Go.Proofs.Ytlhnhilaeoegoaa.QFnExactShardNew
open Go.RowKit Go.Proofs.YtlhnhilaeoegoaaW.PrintWords Go.Proofs.YtlhnhilaeoegoaaW.PrintLast Go.Proofs.YtlhnhilaeoegoaaW.PrintMore
attribute [local go_sem] Kit.run_store_one max2_int min2_int max_two min_two max_three min_three max_four min_four   -- for this text's walks alone
set_option linter.unusedVariables false
set_option linter.unusedSimpArgs false

/-! ### laws_heldSlotS: function 66 -/
def laws_heldSlotS.l0 : Nat → List (S87) → Int → Int → Option (Int)
  | 0, _, _, _ => none
  | k + 1, x0, x1, x5 => if x5 < (x0.length : Int) then (if 0 ≤ x5 then ((laws_markText.f k x1).bind fun t139 => (if ((rd_T87 x0 x5).f0.f0).toList = t139.toList then ((laws_heldFieldS.f k ((rd_T87 x0 x5).f0.f1) (wrap64 (x1 + 1))).bind fun t141 => (if t141 < 0 then (some (-1)) else (if ((rd_T87 x0 x5).f0.f2.f0) = t141 then ((laws_heldFieldS.f k ((rd_T87 x0 x5).f0.f2.f1) (wrap64 (t141 + 1))).bind fun t144 => (if t144 < 0 then (some (-1)) else ((laws_markText.f k t144).bind fun t146 => (if ((rd_T87 x0 x5).f0.f2.f2).toList = t146.toList then (if ((rd_T87 x0 x5).f0.f3) = (wrap64 (t144 + 1)) then (if ((rd_T87 x0 x5).f0.f4) = (wrap64 ((wrap64 (t144 + 1)) + 1)) then (if (((rd_T87 x0 x5).f1) != ((Int.tmod (wrap64 ((wrap64 ((wrap64 (t144 + 1)) + 1)) + 1)) 3) == 0)) = true then (some (-1)) else (laws_heldSlotS.l0 k x0 (wrap64 ((wrap64 ((wrap64 ((wrap64 (t144 + 1)) + 1)) + 1)) + 1)) (wrap64 (x5 + 1)))) else (some (-1))) else (some (-1))) else (some (-1)))))) else (some (-1))))) else (some (-1)))) else (none)) else (some x1)
def laws_heldSlotS.f (k : Nat) (l0 : List (S87)) (a1 : Int) : Option (Int) := laws_heldSlotS.l0 k l0 a1 0
theorem laws_heldSlotS.mono_l : ∀ k, (∀ y0 y1 y2, LeO (laws_heldSlotS.l0 k y0 y1 y2) (laws_heldSlotS.l0 (k + 1) y0 y1 y2))
  | 0 => fun _ _ _ r h => by simp [laws_heldSlotS.l0] at h
  | k + 1 => by
    have ih0 := laws_heldSlotS.mono_l k
    · intro y0 y1 y2
      unfold laws_heldSlotS.l0
      repeat' first
      | (with_reducible exact ih0 _ _ _)
      | (with_reducible exact laws_heldFieldS.mono _ _ _)
      | (with_reducible exact laws_markText.mono _ _)
      | (with_reducible exact LeO.refl _)
      | (with_reducible exact LeO.none _)
      | (with_reducible refine LeO.ite ?_ ?_)
      | (with_reducible refine LeO.bind ?_ (fun _ => ?_))
      | exact ih0 _ _ _
      | exact laws_heldFieldS.mono _ _ _
      | exact laws_markText.mono _ _
      | exact LeO.none _
      | refine LeO.ite ?_ ?_
      | refine LeO.bind ?_ (fun _ => ?_)
theorem laws_heldSlotS.mono : ∀ a0 a1 k, LeO (laws_heldSlotS.f k a0 a1) (laws_heldSlotS.f (k + 1) a0 a1) := by
  intro a0 a1 k
  have ih0 := laws_heldSlotS.mono_l k
  unfold laws_heldSlotS.f
  repeat' first
      | (with_reducible exact ih0 _ _ _)
      | (with_reducible exact laws_heldFieldS.mono _ _ _)
      | (with_reducible exact laws_markText.mono _ _)
      | (with_reducible exact LeO.refl _)
      | (with_reducible exact LeO.none _)
      | (with_reducible refine LeO.ite ?_ ?_)
      | (with_reducible refine LeO.bind ?_ (fun _ => ?_))
      | exact ih0 _ _ _
      | exact laws_heldFieldS.mono _ _ _
      | exact laws_markText.mono _ _
      | exact LeO.none _
      | refine LeO.ite ?_ ?_
      | refine LeO.bind ?_ (fun _ => ?_)
def laws_heldSlotS.T4 : Bool × List (List Nat × List Nat) := (true, [([], []), ([], []), ([0, 1], [0, 1]), ([2], [2]), ([3], [3]), ([4], [4]), ([], []), ([6], [6]), ([5, 7], [5, 7])])
def laws_heldSlotS.B4 : List Nat := [0, 0, 3, 7, 15, 31, 0, 64, 255]
theorem laws_heldSlotS.tab4 : rtab .any (opsOf Try.f66 4) = laws_heldSlotS.T4 := by kernel_rfl
theorem laws_heldSlotS.bits4 : waitsOk laws_heldSlotS.T4.2 laws_heldSlotS.B4 = true := by kernel_rfl
def laws_heldSlotS.T16 : Bool × List (List Nat × List Nat) := (true, [([], []), ([], []), ([0, 1], [0, 1]), ([2], [2]), ([3], [3]), ([4], [4]), ([5], [5]), ([], []), ([7], [7]), ([6, 8], [6, 8])])
def laws_heldSlotS.B16 : List Nat := [0, 0, 3, 7, 15, 31, 63, 0, 128, 511]
theorem laws_heldSlotS.tab16 : rtab .any (opsOf Try.f66 16) = laws_heldSlotS.T16 := by kernel_rfl
theorem laws_heldSlotS.bits16 : waitsOk laws_heldSlotS.T16.2 laws_heldSlotS.B16 = true := by kernel_rfl
set_option maxHeartbeats 8000000 in
set_option maxRecDepth 100000 in
theorem laws_heldSlotS.calls (k : Nat) (A0 : Option Addr) (c0 : Nat) (l0 : List (S87)) (a1 : Int) (r : Int) (w : World) (hr0 : Kd.C k87 w A0 l0.length l0) (hc0 : l0.length ≤ c0) (h : laws_heldSlotS.f k l0 a1 = some r) :
    Calls Try.prog 66 #[.slice A0 l0.length c0, .int .i64 a1] w fun e w' => e = .returned (.int .i64 r) ∧ Below w.heap.size w w' := by
  have HR0 := Aside0.mk hr0
  have HC0 := Aside0.mk hc0
  clear hr0 hc0
  have HB := Aside0.mk (Below.refl w.heap.size w)
  have H : (laws_heldSlotS.l0 k l0 a1 0) = some r := h
  clear h
  have H' := Aside0.mk H
  clear H
  go_enter Try.func66, Try.ntmps66
  go_wp2
  go_loopg [1, 5] k (fun kq v1 v5 w' => ∃ (x1_1 : Int) (x5_1 : Int), v1 = .int .i64 x1_1 ∧ v5 = .int .i64 x5_1 ∧ Aside0 (laws_heldSlotS.l0 kq l0 x1_1 x5_1 = some r) ∧ Aside0 (kq ≤ k) ∧ Aside0 (Below w.heap.size w w'))
  case atStart => exact ⟨(a1), (0), (by first | rfl | (simp; done) | (simp [*]; done)), (by first | rfl | (simp; done) | (simp [*]; done)), H', ⟨Nat.le_refl _⟩, ⟨Kit.bl⟩⟩
  case round =>
    clear H'
    try clear p2
    obtain ⟨x1_1, x5_1, rfl, rfl, HA, HK1, HB⟩ := hrel
    cases gk with
    | zero => exact absurd HA.out (by simp [laws_heldSlotS.l0])
    | succ k1 =>
      have H := HA.out
      clear HA
      simp only [laws_heldSlotS.l0] at H
      by_cases c3 : x5_1 < (l0.length : Int)
      · rw [if_pos c3] at H
        have c3b0 : decide (x5_1 < (l0.length : Int)) = true := decide_eq_true c3
        clear c3
        by_cases c4 : 0 ≤ x5_1
        · rw [if_pos c4] at H
          have c4b0 : decide (0 ≤ x5_1) = true := decide_eq_true c4
          clear c4
          replace H := Option.bind_eq_some_iff.mp H
          obtain ⟨t139, A50, H⟩ := H
          replace H : (if ((rd_T87 l0 x5_1).f0.f0).toList = t139.toList then ((laws_heldFieldS.f k1 ((rd_T87 l0 x5_1).f0.f1) (wrap64 (x1_1 + 1))).bind fun t141 => (if t141 < 0 then (some (-1)) else (if ((rd_T87 l0 x5_1).f0.f2.f0) = t141 then ((laws_heldFieldS.f k1 ((rd_T87 l0 x5_1).f0.f2.f1) (wrap64 (t141 + 1))).bind fun t144 => (if t144 < 0 then (some (-1)) else ((laws_markText.f k1 t144).bind fun t146 => (if ((rd_T87 l0 x5_1).f0.f2.f2).toList = t146.toList then (if ((rd_T87 l0 x5_1).f0.f3) = (wrap64 (t144 + 1)) then (if ((rd_T87 l0 x5_1).f0.f4) = (wrap64 ((wrap64 (t144 + 1)) + 1)) then (if (((rd_T87 l0 x5_1).f1) != ((Int.tmod (wrap64 ((wrap64 ((wrap64 (t144 + 1)) + 1)) + 1)) 3) == 0)) = true then (some (-1)) else (laws_heldSlotS.l0 k1 l0 (wrap64 ((wrap64 ((wrap64 ((wrap64 (t144 + 1)) + 1)) + 1)) + 1)) (wrap64 (x5_1 + 1)))) else (some (-1))) else (some (-1))) else (some (-1)))))) else (some (-1))))) else (some (-1))) = some r := H
          have A5 := Aside0.mk A50
          clear A50
          by_cases c6 : ((rd_T87 l0 x5_1).f0.f0).toList = t139.toList
          · rw [if_pos c6] at H
            have c6b0 : (((rd_T87 l0 x5_1).f0.f0).toList == t139.toList) = true := beq_iff_eq.mpr c6
            have c6b1 : (((rd_T87 l0 x5_1).f0.f0).toList != t139.toList) = false := bne_eq_false_iff_eq.mpr c6
            clear c6
            replace H := Option.bind_eq_some_iff.mp H
            obtain ⟨t141, A70, H⟩ := H
            replace H : (if t141 < 0 then (some (-1)) else (if ((rd_T87 l0 x5_1).f0.f2.f0) = t141 then ((laws_heldFieldS.f k1 ((rd_T87 l0 x5_1).f0.f2.f1) (wrap64 (t141 + 1))).bind fun t144 => (if t144 < 0 then (some (-1)) else ((laws_markText.f k1 t144).bind fun t146 => (if ((rd_T87 l0 x5_1).f0.f2.f2).toList = t146.toList then (if ((rd_T87 l0 x5_1).f0.f3) = (wrap64 (t144 + 1)) then (if ((rd_T87 l0 x5_1).f0.f4) = (wrap64 ((wrap64 (t144 + 1)) + 1)) then (if (((rd_T87 l0 x5_1).f1) != ((Int.tmod (wrap64 ((wrap64 ((wrap64 (t144 + 1)) + 1)) + 1)) 3) == 0)) = true then (some (-1)) else (laws_heldSlotS.l0 k1 l0 (wrap64 ((wrap64 ((wrap64 ((wrap64 (t144 + 1)) + 1)) + 1)) + 1)) (wrap64 (x5_1 + 1)))) else (some (-1))) else (some (-1))) else (some (-1)))))) else (some (-1)))) = some r := H
            have A7 := Aside0.mk A70
            clear A70
            by_cases c8 : t141 < 0
            · rw [if_pos c8] at H
              have c8b0 : decide (t141 < 0) = true := decide_eq_true c8
              clear c8
              obtain rfl := Option.some.inj H
              try go_wp2
              replace HB := Aside0.mk (below_drew1 HB.out)
              have p138 : 0 ≤ (x5_1 : Int) := of_decide_eq_true Kit.asm
              have q138 : x5_1 < (l0.length : Int) := of_decide_eq_true Kit.asm
              obtain ⟨ad138, A138_1, c138_1, A138_3, c138_3, e138, hx138_0, hx138_1, hx138_2, hx138_3, hx138_4, hx138_5, hx138_6, hx138_7, hl138_1, hi138_1, hl138_3, hi138_3⟩ := at_T87 HR0.out x5_1 p138 q138
              have hk138_1 := Aside0.mk hx138_1
              have hk138_3 := Aside0.mk hx138_3
              have hw138_7 := hx138_7
              have hw138_6 := hx138_6
              have hw138_5 := hx138_5
              have hw138_4 := hx138_4
              have hw138_3 := hx138_3
              have hw138_2 := hx138_2
              have hw138_1 := hx138_1
              have hw138_0 := hx138_0
              cases e138
              replace hx138_0 := Kit.hx HB.out hx138_0
              replace hx138_1 := Kit.hx HB.out hx138_1
              replace hx138_2 := Kit.hx HB.out hx138_2
              replace hx138_3 := Kit.hx HB.out hx138_3
              replace hx138_4 := Kit.hx HB.out hx138_4
              replace hx138_5 := Kit.hx HB.out hx138_5
              replace hx138_6 := Kit.hx HB.out hx138_6
              replace hx138_7 := Kit.hx HB.out hx138_7
              have HR138_1 := Aside0.mk hi138_1
              have HC138_1 := Aside0.mk hl138_1
              clear hi138_1 hl138_1
              have HR138_3 := Aside0.mk hi138_3
              have HC138_3 := Aside0.mk hl138_3
              clear hi138_3 hl138_3
              replace p138 := eq_true p138
              replace q138 := eq_true q138
              refine start_ (n := 9) (S := fun w' => w'.cell? (ad138.add ((x5_1).toNat * 8)) = some (.string ((rd_T87 l0 x5_1).f0.f0)) ∧ w'.cell? ⟨(ad138.add ((x5_1).toNat * 8)).block, (ad138.add ((x5_1).toNat * 8)).off + 1, none⟩ = some (.slice A138_1 ((rd_T87 l0 x5_1).f0.f1).length c138_1) ∧ w'.cell? ⟨(ad138.add ((x5_1).toNat * 8)).block, (ad138.add ((x5_1).toNat * 8)).off + 2, none⟩ = some (.int .i64 ((rd_T87 l0 x5_1).f0.f2.f0)) ∧ w'.cell? ⟨(ad138.add ((x5_1).toNat * 8)).block, (ad138.add ((x5_1).toNat * 8)).off + 3, none⟩ = some (.slice A138_3 ((rd_T87 l0 x5_1).f0.f2.f1).length c138_3) ∧ w'.cell? ⟨(ad138.add ((x5_1).toNat * 8)).block, (ad138.add ((x5_1).toNat * 8)).off + 4, none⟩ = some (.string ((rd_T87 l0 x5_1).f0.f2.f2)) ∧ w'.cell? ⟨(ad138.add ((x5_1).toNat * 8)).block, (ad138.add ((x5_1).toNat * 8)).off + 5, none⟩ = some (.int .i64 ((rd_T87 l0 x5_1).f0.f3)) ∧ w'.cell? ⟨(ad138.add ((x5_1).toNat * 8)).block, (ad138.add ((x5_1).toNat * 8)).off + 6, none⟩ = some (.int .i64 ((rd_T87 l0 x5_1).f0.f4)) ∧ w'.cell? ⟨(ad138.add ((x5_1).toNat * 8)).block, (ad138.add ((x5_1).toNat * 8)).off + 7, none⟩ = some (.bool ((rd_T87 l0 x5_1).f1))) (ds := []) #[false, false, false, false, false, false, false, false, false] (by kernel_rfl) rfl rfl ⟨(Kit.hx HB.out hw138_0), (Kit.hx HB.out hw138_1), (Kit.hx HB.out hw138_2), (Kit.hx HB.out hw138_3), (Kit.hx HB.out hw138_4), (Kit.hx HB.out hw138_5), (Kit.hx HB.out hw138_6), (Kit.hx HB.out hw138_7)⟩ (fun hHeld => ?_); refine with_tabW laws_heldSlotS.tab4 laws_heldSlotS.bits4 (fun HT_ HW_ => ?_)
              generalize wr.drew = w9 at HB HR138_1 HR138_3 hx138_0 hx138_1 hx138_2 hx138_3 hx138_4 hx138_5 hx138_6 hx138_7 hHeld ⊢
              refine pure_ (i := 0) (N := some 12) (v := ?_) (a' := ?_) #[true, false, false, false, false, false, false, false, false] rfl rfl (any_of HT_.out (by kernel_rfl)) (fun _ _ _ h => h) (Or.inl ⟨by rfl, ?_⟩) ?_ ?_
              rotate_left
              · intro w'
                go_simp
                with_reducible rfl
              rotate_left
              · simp only [Act.put, List.setIfInBounds_toArray, List.set_cons_zero, List.set_cons_succ, i64_w, i32_w]
                rfl
              refine pure_ (i := 1) (N := some 13) (v := ?_) (a' := ?_) #[true, true, false, false, false, false, false, false, false] rfl rfl (any_of HT_.out (by kernel_rfl)) (fun _ _ _ h => h) (Or.inl ⟨by rfl, ?_⟩) ?_ ?_
              rotate_left
              · intro w'
                go_simp
                with_reducible rfl
              rotate_left
              · simp only [Act.put, List.setIfInBounds_toArray, List.set_cons_zero, List.set_cons_succ, i64_w, i32_w]
                rfl
              refine pure_ (i := 2) (N := some 14) (v := ?_) (a' := ?_) #[true, true, true, false, false, false, false, false, false] rfl rfl (any_of HT_.out (by kernel_rfl)) (fun _ _ _ h => h) (Or.inl ⟨by rfl, ?_⟩) ?_ ?_
              rotate_left
              · intro w'
                go_simp
                with_reducible rfl
              rotate_left
              · simp only [Act.put, List.setIfInBounds_toArray, List.set_cons_zero, List.set_cons_succ, i64_w, i32_w]
                rfl
              refine pure_ (i := 3) (N := some 15) (v := ?_) (a' := ?_) #[true, true, true, true, false, false, false, false, false] rfl rfl (any_of HT_.out (by kernel_rfl)) (fun _ _ _ h => h) (Or.inl ⟨by rfl, ?_⟩) ?_ ?_
              rotate_left
              · intro w'
                go_simp
                with_reducible rfl
              rotate_left
              · simp only [Act.put, List.setIfInBounds_toArray, List.set_cons_zero, List.set_cons_succ, i64_w, i32_w]
                rfl
              refine pure_ (i := 4) (N := some 16) (v := ?_) (a' := ?_) #[true, true, true, true, true, false, false, false, false] rfl rfl (any_of HT_.out (by kernel_rfl)) (fun _ _ _ h => h) (Or.inl ⟨by rfl, ?_⟩) ?_ ?_
              rotate_left
              · intro w'
                go_simp
                with_reducible rfl
              rotate_left
              · simp only [Act.put, List.setIfInBounds_toArray, List.set_cons_zero, List.set_cons_succ, i64_w, i32_w]
                rfl
              refine pure_ (i := 6) (N := some 18) (v := ?_) (a' := ?_) #[true, true, true, true, true, false, true, false, false] rfl rfl (any_of HT_.out (by kernel_rfl)) (fun _ _ _ h => h) (Or.inl ⟨by rfl, ?_⟩) ?_ ?_
              rotate_left
              · intro w'
                go_simp
                with_reducible rfl
              rotate_left
              · simp only [Act.put, List.setIfInBounds_toArray, List.set_cons_zero, List.set_cons_succ, i64_w, i32_w]
                rfl
              refine take_ (i := 5) (N := some 17) (v := ?_) (a' := ?_) #[true, true, true, true, true, true, true, false, false] rfl rfl (take_ofW HT_.out HW_.out (by kernel_rfl)) (fun _ _ _ h => h) (Or.inl ⟨by rfl, ?_⟩) hHeld ?_ ?_
              rotate_left
              · rintro w' ⟨s0, s1, s2, s3, s4, s5, s6, s7⟩
                go_simp
                with_reducible rfl
              rotate_left
              · simp only [Act.put, List.setIfInBounds_toArray, List.set_cons_zero, List.set_cons_succ, i64_w, i32_w]
                rfl
              refine one_ (i := 7) (N := some 19) #[true, true, true, true, true, true, true, true, false] rfl rfl (one_of HT_.out (by kernel_rfl)) (by decide) (fun K hK => ?_)
              refine goes_ Try.func78 (by kernel_rfl) rfl #[.int .i64 x1_1] (by rfl) rfl rfl Kit.am ?_
              with_reducible refine (laws_markText.calls k1 x1_1 t139 _ A5.out).mono ?_
              rintro e w10 ⟨rfl, hb⟩
              refine ⟨_, rfl, ?_⟩
              replace HB := Kit.hB hb
              (try clear hb)
              (try clear hb2)
              (try clear hk)
              (try clear hi)
              refine hK.out _ _ ⟨(Kit.hx HB.out hw138_0), (Kit.hx HB.out hw138_1), (Kit.hx HB.out hw138_2), (Kit.hx HB.out hw138_3), (Kit.hx HB.out hw138_4), (Kit.hx HB.out hw138_5), (Kit.hx HB.out hw138_6), (Kit.hx HB.out hw138_7)⟩ (fun hHeld => ?_)
              clear hK K
              refine norm_ (a' := ?_) ?_ ?_
              rotate_left
              · show Act.put _ (some 19) _ = _
                simp only [Act.put, List.setIfInBounds_toArray, List.set_cons_zero, List.set_cons_succ, i64_w, i32_w]
                rfl
              refine pure_ (i := 8) (N := some 20) (v := ?_) (a' := ?_) #[true, true, true, true, true, true, true, true, true] rfl rfl (any_of HT_.out (by kernel_rfl)) (fun _ _ _ h => h) (Or.inl ⟨by rfl, ?_⟩) ?_ ?_
              rotate_left
              · intro w'
                go_simp
                with_reducible rfl
              rotate_left
              · simp only [Act.put, List.setIfInBounds_toArray, List.set_cons_zero, List.set_cons_succ, i64_w, i32_w]
                rfl
              refine done_ (done_of HT_.out (by kernel_rfl)) ?_
              have p140 : 0 ≤ (x5_1 : Int) := of_decide_eq_true Kit.asm
              have q140 : x5_1 < (l0.length : Int) := of_decide_eq_true Kit.asm
              obtain ⟨ad140, A140_1, c140_1, A140_3, c140_3, e140, hx140_0, hx140_1, hx140_2, hx140_3, hx140_4, hx140_5, hx140_6, hx140_7, hl140_1, hi140_1, hl140_3, hi140_3⟩ := at_T87 HR0.out x5_1 p140 q140
              have hk140_1 := Aside0.mk hx140_1
              have hk140_3 := Aside0.mk hx140_3
              obtain rfl : ad138 = ad140 := (by injection e140)
              try (have e_ := hx140_1.symm.trans hk138_1.out; injection e_ with e_; injection e_ with e_1 e_2 e_3; subst e_1; subst e_3)
              try (have e_ := hx140_3.symm.trans hk138_3.out; injection e_ with e_; injection e_ with e_1 e_2 e_3; subst e_1; subst e_3)
              replace hx140_0 := Kit.hx HB.out hx140_0
              replace hx140_1 := Kit.hx HB.out hx140_1
              replace hx140_2 := Kit.hx HB.out hx140_2
              replace hx140_3 := Kit.hx HB.out hx140_3
              replace hx140_4 := Kit.hx HB.out hx140_4
              replace hx140_5 := Kit.hx HB.out hx140_5
              replace hx140_6 := Kit.hx HB.out hx140_6
              replace hx140_7 := Kit.hx HB.out hx140_7
              have HR140_1 := Aside0.mk hi140_1
              have HC140_1 := Aside0.mk hl140_1
              clear hi140_1 hl140_1
              have HR140_3 := Aside0.mk hi140_3
              have HC140_3 := Aside0.mk hl140_3
              clear hi140_3 hl140_3
              replace p140 := eq_true p140
              replace q140 := eq_true q140
              try go_wp2_with (first | ((with_reducible refine gate_callee (f := 53) rfl ?_); refine goesL_ (some 30) rfl rfl Try.func53 (by kernel_rfl) rfl #[.slice A140_1 ((rd_T87 l0 x5_1).f0.f1).length c140_1, .int .i64 (wrap64 (x1_1 + 1))] rfl Kit.am ?_; (with_reducible refine (laws_heldFieldS.calls k1 _ _ ((rd_T87 l0 x5_1).f0.f1) (wrap64 (x1_1 + 1)) t141 _ ?side1 ?side2 A7.out).mono ?_); (case side1 => exact Kit.cr HR140_1.out HB.out); (case side2 => exact HC140_1.out); rintro e w11 ⟨rfl, hb⟩; refine ⟨_, rfl, ?_⟩; replace HB := Kit.hB hb; (try clear hb); (try clear hb2); (try clear hk); (try clear hi)))
              go_ret
              exact ⟨Kit.er, Kit.bl⟩
            · rw [if_neg c8] at H
              have c8b0 : decide (t141 < 0) = false := decide_eq_false c8
              clear c8
              by_cases c12 : ((rd_T87 l0 x5_1).f0.f2.f0) = t141
              · rw [if_pos c12] at H
                have c12b0 : (((rd_T87 l0 x5_1).f0.f2.f0) == t141) = true := beq_iff_eq.mpr c12
                have c12b1 : (((rd_T87 l0 x5_1).f0.f2.f0) != t141) = false := bne_eq_false_iff_eq.mpr c12
                clear c12
                replace H := Option.bind_eq_some_iff.mp H
                obtain ⟨t144, A130, H⟩ := H
                replace H : (if t144 < 0 then (some (-1)) else ((laws_markText.f k1 t144).bind fun t146 => (if ((rd_T87 l0 x5_1).f0.f2.f2).toList = t146.toList then (if ((rd_T87 l0 x5_1).f0.f3) = (wrap64 (t144 + 1)) then (if ((rd_T87 l0 x5_1).f0.f4) = (wrap64 ((wrap64 (t144 + 1)) + 1)) then (if (((rd_T87 l0 x5_1).f1) != ((Int.tmod (wrap64 ((wrap64 ((wrap64 (t144 + 1)) + 1)) + 1)) 3) == 0)) = true then (some (-1)) else (laws_heldSlotS.l0 k1 l0 (wrap64 ((wrap64 ((wrap64 ((wrap64 (t144 + 1)) + 1)) + 1)) + 1)) (wrap64 (x5_1 + 1)))) else (some (-1))) else (some (-1))) else (some (-1))))) = some r := H
                have A13 := Aside0.mk A130
                clear A130
                by_cases c14 : t144 < 0
                · rw [if_pos c14] at H
                  have c14b0 : decide (t144 < 0) = true := decide_eq_true c14
                  clear c14
                  obtain rfl := Option.some.inj H
                  try go_wp2
                  replace HB := Aside0.mk (below_drew1 HB.out)
                  have p138 : 0 ≤ (x5_1 : Int) := of_decide_eq_true Kit.asm
                  have q138 : x5_1 < (l0.length : Int) := of_decide_eq_true Kit.asm
                  obtain ⟨ad138, A138_1, c138_1, A138_3, c138_3, e138, hx138_0, hx138_1, hx138_2, hx138_3, hx138_4, hx138_5, hx138_6, hx138_7, hl138_1, hi138_1, hl138_3, hi138_3⟩ := at_T87 HR0.out x5_1 p138 q138
                  have hk138_1 := Aside0.mk hx138_1
                  have hk138_3 := Aside0.mk hx138_3
                  have hw138_7 := hx138_7
                  have hw138_6 := hx138_6
                  have hw138_5 := hx138_5
                  have hw138_4 := hx138_4
                  have hw138_3 := hx138_3
                  have hw138_2 := hx138_2
                  have hw138_1 := hx138_1
                  have hw138_0 := hx138_0
                  cases e138
                  replace hx138_0 := Kit.hx HB.out hx138_0
                  replace hx138_1 := Kit.hx HB.out hx138_1
                  replace hx138_2 := Kit.hx HB.out hx138_2
                  replace hx138_3 := Kit.hx HB.out hx138_3
                  replace hx138_4 := Kit.hx HB.out hx138_4
                  replace hx138_5 := Kit.hx HB.out hx138_5
                  replace hx138_6 := Kit.hx HB.out hx138_6
                  replace hx138_7 := Kit.hx HB.out hx138_7
                  have HR138_1 := Aside0.mk hi138_1
                  have HC138_1 := Aside0.mk hl138_1
                  clear hi138_1 hl138_1
                  have HR138_3 := Aside0.mk hi138_3
                  have HC138_3 := Aside0.mk hl138_3
                  clear hi138_3 hl138_3
                  replace p138 := eq_true p138
                  replace q138 := eq_true q138
                  refine start_ (n := 9) (S := fun w' => w'.cell? (ad138.add ((x5_1).toNat * 8)) = some (.string ((rd_T87 l0 x5_1).f0.f0)) ∧ w'.cell? ⟨(ad138.add ((x5_1).toNat * 8)).block, (ad138.add ((x5_1).toNat * 8)).off + 1, none⟩ = some (.slice A138_1 ((rd_T87 l0 x5_1).f0.f1).length c138_1) ∧ w'.cell? ⟨(ad138.add ((x5_1).toNat * 8)).block, (ad138.add ((x5_1).toNat * 8)).off + 2, none⟩ = some (.int .i64 ((rd_T87 l0 x5_1).f0.f2.f0)) ∧ w'.cell? ⟨(ad138.add ((x5_1).toNat * 8)).block, (ad138.add ((x5_1).toNat * 8)).off + 3, none⟩ = some (.slice A138_3 ((rd_T87 l0 x5_1).f0.f2.f1).length c138_3) ∧ w'.cell? ⟨(ad138.add ((x5_1).toNat * 8)).block, (ad138.add ((x5_1).toNat * 8)).off + 4, none⟩ = some (.string ((rd_T87 l0 x5_1).f0.f2.f2)) ∧ w'.cell? ⟨(ad138.add ((x5_1).toNat * 8)).block, (ad138.add ((x5_1).toNat * 8)).off + 5, none⟩ = some (.int .i64 ((rd_T87 l0 x5_1).f0.f3)) ∧ w'.cell? ⟨(ad138.add ((x5_1).toNat * 8)).block, (ad138.add ((x5_1).toNat * 8)).off + 6, none⟩ = some (.int .i64 ((rd_T87 l0 x5_1).f0.f4)) ∧ w'.cell? ⟨(ad138.add ((x5_1).toNat * 8)).block, (ad138.add ((x5_1).toNat * 8)).off + 7, none⟩ = some (.bool ((rd_T87 l0 x5_1).f1))) (ds := []) #[false, false, false, false, false, false, false, false, false] (by kernel_rfl) rfl rfl ⟨(Kit.hx HB.out hw138_0), (Kit.hx HB.out hw138_1), (Kit.hx HB.out hw138_2), (Kit.hx HB.out hw138_3), (Kit.hx HB.out hw138_4), (Kit.hx HB.out hw138_5), (Kit.hx HB.out hw138_6), (Kit.hx HB.out hw138_7)⟩ (fun hHeld => ?_); refine with_tabW laws_heldSlotS.tab4 laws_heldSlotS.bits4 (fun HT_ HW_ => ?_)
                  generalize wr.drew = w15 at HB HR138_1 HR138_3 hx138_0 hx138_1 hx138_2 hx138_3 hx138_4 hx138_5 hx138_6 hx138_7 hHeld ⊢
                  refine pure_ (i := 0) (N := some 12) (v := ?_) (a' := ?_) #[true, false, false, false, false, false, false, false, false] rfl rfl (any_of HT_.out (by kernel_rfl)) (fun _ _ _ h => h) (Or.inl ⟨by rfl, ?_⟩) ?_ ?_
                  rotate_left
                  · intro w'
                    go_simp
                    with_reducible rfl
                  rotate_left
                  · simp only [Act.put, List.setIfInBounds_toArray, List.set_cons_zero, List.set_cons_succ, i64_w, i32_w]
                    rfl
                  refine pure_ (i := 1) (N := some 13) (v := ?_) (a' := ?_) #[true, true, false, false, false, false, false, false, false] rfl rfl (any_of HT_.out (by kernel_rfl)) (fun _ _ _ h => h) (Or.inl ⟨by rfl, ?_⟩) ?_ ?_
                  rotate_left
                  · intro w'
                    go_simp
                    with_reducible rfl
                  rotate_left
                  · simp only [Act.put, List.setIfInBounds_toArray, List.set_cons_zero, List.set_cons_succ, i64_w, i32_w]
                    rfl
                  refine pure_ (i := 2) (N := some 14) (v := ?_) (a' := ?_) #[true, true, true, false, false, false, false, false, false] rfl rfl (any_of HT_.out (by kernel_rfl)) (fun _ _ _ h => h) (Or.inl ⟨by rfl, ?_⟩) ?_ ?_
                  rotate_left
                  · intro w'
                    go_simp
                    with_reducible rfl
                  rotate_left
                  · simp only [Act.put, List.setIfInBounds_toArray, List.set_cons_zero, List.set_cons_succ, i64_w, i32_w]
                    rfl
                  refine pure_ (i := 3) (N := some 15) (v := ?_) (a' := ?_) #[true, true, true, true, false, false, false, false, false] rfl rfl (any_of HT_.out (by kernel_rfl)) (fun _ _ _ h => h) (Or.inl ⟨by rfl, ?_⟩) ?_ ?_
                  rotate_left
                  · intro w'
                    go_simp
                    with_reducible rfl
                  rotate_left
                  · simp only [Act.put, List.setIfInBounds_toArray, List.set_cons_zero, List.set_cons_succ, i64_w, i32_w]
                    rfl
                  refine pure_ (i := 4) (N := some 16) (v := ?_) (a' := ?_) #[true, true, true, true, true, false, false, false, false] rfl rfl (any_of HT_.out (by kernel_rfl)) (fun _ _ _ h => h) (Or.inl ⟨by rfl, ?_⟩) ?_ ?_
                  rotate_left
                  · intro w'
                    go_simp
                    with_reducible rfl
                  rotate_left
                  · simp only [Act.put, List.setIfInBounds_toArray, List.set_cons_zero, List.set_cons_succ, i64_w, i32_w]
                    rfl
                  refine pure_ (i := 6) (N := some 18) (v := ?_) (a' := ?_) #[true, true, true, true, true, false, true, false, false] rfl rfl (any_of HT_.out (by kernel_rfl)) (fun _ _ _ h => h) (Or.inl ⟨by rfl, ?_⟩) ?_ ?_
                  rotate_left
                  · intro w'
                    go_simp
                    with_reducible rfl
                  rotate_left
                  · simp only [Act.put, List.setIfInBounds_toArray, List.set_cons_zero, List.set_cons_succ, i64_w, i32_w]
                    rfl
                  refine take_ (i := 5) (N := some 17) (v := ?_) (a' := ?_) #[true, true, true, true, true, true, true, false, false] rfl rfl (take_ofW HT_.out HW_.out (by kernel_rfl)) (fun _ _ _ h => h) (Or.inl ⟨by rfl, ?_⟩) hHeld ?_ ?_
                  rotate_left
                  · rintro w' ⟨s0, s1, s2, s3, s4, s5, s6, s7⟩
                    go_simp
                    with_reducible rfl
                  rotate_left
                  · simp only [Act.put, List.setIfInBounds_toArray, List.set_cons_zero, List.set_cons_succ, i64_w, i32_w]
                    rfl
                  refine one_ (i := 7) (N := some 19) #[true, true, true, true, true, true, true, true, false] rfl rfl (one_of HT_.out (by kernel_rfl)) (by decide) (fun K hK => ?_)
                  refine goes_ Try.func78 (by kernel_rfl) rfl #[.int .i64 x1_1] (by rfl) rfl rfl Kit.am ?_
                  with_reducible refine (laws_markText.calls k1 x1_1 t139 _ A5.out).mono ?_
                  rintro e w16 ⟨rfl, hb⟩
                  refine ⟨_, rfl, ?_⟩
                  replace HB := Kit.hB hb
                  (try clear hb)
                  (try clear hb2)
                  (try clear hk)
                  (try clear hi)
                  refine hK.out _ _ ⟨(Kit.hx HB.out hw138_0), (Kit.hx HB.out hw138_1), (Kit.hx HB.out hw138_2), (Kit.hx HB.out hw138_3), (Kit.hx HB.out hw138_4), (Kit.hx HB.out hw138_5), (Kit.hx HB.out hw138_6), (Kit.hx HB.out hw138_7)⟩ (fun hHeld => ?_)
                  clear hK K
                  refine norm_ (a' := ?_) ?_ ?_
                  rotate_left
                  · show Act.put _ (some 19) _ = _
                    simp only [Act.put, List.setIfInBounds_toArray, List.set_cons_zero, List.set_cons_succ, i64_w, i32_w]
                    rfl
                  refine pure_ (i := 8) (N := some 20) (v := ?_) (a' := ?_) #[true, true, true, true, true, true, true, true, true] rfl rfl (any_of HT_.out (by kernel_rfl)) (fun _ _ _ h => h) (Or.inl ⟨by rfl, ?_⟩) ?_ ?_
                  rotate_left
                  · intro w'
                    go_simp
                    with_reducible rfl
                  rotate_left
                  · simp only [Act.put, List.setIfInBounds_toArray, List.set_cons_zero, List.set_cons_succ, i64_w, i32_w]
                    rfl
                  refine done_ (done_of HT_.out (by kernel_rfl)) ?_
                  have p140 : 0 ≤ (x5_1 : Int) := of_decide_eq_true Kit.asm
                  have q140 : x5_1 < (l0.length : Int) := of_decide_eq_true Kit.asm
                  obtain ⟨ad140, A140_1, c140_1, A140_3, c140_3, e140, hx140_0, hx140_1, hx140_2, hx140_3, hx140_4, hx140_5, hx140_6, hx140_7, hl140_1, hi140_1, hl140_3, hi140_3⟩ := at_T87 HR0.out x5_1 p140 q140
                  have hk140_1 := Aside0.mk hx140_1
                  have hk140_3 := Aside0.mk hx140_3
                  obtain rfl : ad138 = ad140 := (by injection e140)
                  try (have e_ := hx140_1.symm.trans hk138_1.out; injection e_ with e_; injection e_ with e_1 e_2 e_3; subst e_1; subst e_3)
                  try (have e_ := hx140_3.symm.trans hk138_3.out; injection e_ with e_; injection e_ with e_1 e_2 e_3; subst e_1; subst e_3)
                  replace hx140_0 := Kit.hx HB.out hx140_0
                  replace hx140_1 := Kit.hx HB.out hx140_1
                  replace hx140_2 := Kit.hx HB.out hx140_2
                  replace hx140_3 := Kit.hx HB.out hx140_3
                  replace hx140_4 := Kit.hx HB.out hx140_4
                  replace hx140_5 := Kit.hx HB.out hx140_5
                  replace hx140_6 := Kit.hx HB.out hx140_6
                  replace hx140_7 := Kit.hx HB.out hx140_7
                  have HR140_1 := Aside0.mk hi140_1
                  have HC140_1 := Aside0.mk hl140_1
                  clear hi140_1 hl140_1
                  have HR140_3 := Aside0.mk hi140_3
                  have HC140_3 := Aside0.mk hl140_3
                  clear hi140_3 hl140_3
                  replace p140 := eq_true p140
                  replace q140 := eq_true q140
                  try go_wp2_with (first | ((with_reducible refine gate_callee (f := 53) rfl ?_); refine goesL_ (some 30) rfl rfl Try.func53 (by kernel_rfl) rfl #[.slice A140_1 ((rd_T87 l0 x5_1).f0.f1).length c140_1, .int .i64 (wrap64 (x1_1 + 1))] rfl Kit.am ?_; (with_reducible refine (laws_heldFieldS.calls k1 _ _ ((rd_T87 l0 x5_1).f0.f1) (wrap64 (x1_1 + 1)) t141 _ ?side1 ?side2 A7.out).mono ?_); (case side1 => exact Kit.cr HR140_1.out HB.out); (case side2 => exact HC140_1.out); rintro e w17 ⟨rfl, hb⟩; refine ⟨_, rfl, ?_⟩; replace HB := Kit.hB hb; (try clear hb); (try clear hb2); (try clear hk); (try clear hi); have p142 : 0 ≤ (x5_1 : Int) := of_decide_eq_true Kit.asm; have q142 : x5_1 < (l0.length : Int) := of_decide_eq_true Kit.asm; obtain ⟨ad142, A142_1, c142_1, A142_3, c142_3, e142, hx142_0, hx142_1, hx142_2, hx142_3, hx142_4, hx142_5, hx142_6, hx142_7, hl142_1, hi142_1, hl142_3, hi142_3⟩ := at_T87 HR0.out x5_1 p142 q142; obtain rfl : ad138 = ad142 := (by injection e142); replace hx142_0 := Kit.hx HB.out hx142_0; replace hx142_1 := Kit.hx HB.out hx142_1; replace hx142_2 := Kit.hx HB.out hx142_2; replace hx142_3 := Kit.hx HB.out hx142_3; replace hx142_4 := Kit.hx HB.out hx142_4; replace hx142_5 := Kit.hx HB.out hx142_5; replace hx142_6 := Kit.hx HB.out hx142_6; replace hx142_7 := Kit.hx HB.out hx142_7; have HR142_1 := Aside0.mk hi142_1; have HC142_1 := Aside0.mk hl142_1; clear hi142_1 hl142_1; have HR142_3 := Aside0.mk hi142_3; have HC142_3 := Aside0.mk hl142_3; clear hi142_3 hl142_3; replace p142 := eq_true p142; replace q142 := eq_true q142; have p143 : 0 ≤ (x5_1 : Int) := of_decide_eq_true Kit.asm; have q143 : x5_1 < (l0.length : Int) := of_decide_eq_true Kit.asm; obtain ⟨ad143, A143_1, c143_1, A143_3, c143_3, e143, hx143_0, hx143_1, hx143_2, hx143_3, hx143_4, hx143_5, hx143_6, hx143_7, hl143_1, hi143_1, hl143_3, hi143_3⟩ := at_T87 HR0.out x5_1 p143 q143; obtain rfl : ad138 = ad143 := (by injection e143); replace hx143_0 := Kit.hx HB.out hx143_0; replace hx143_1 := Kit.hx HB.out hx143_1; replace hx143_2 := Kit.hx HB.out hx143_2; replace hx143_3 := Kit.hx HB.out hx143_3; replace hx143_4 := Kit.hx HB.out hx143_4; replace hx143_5 := Kit.hx HB.out hx143_5; replace hx143_6 := Kit.hx HB.out hx143_6; replace hx143_7 := Kit.hx HB.out hx143_7; have HR143_1 := Aside0.mk hi143_1; have HC143_1 := Aside0.mk hl143_1; clear hi143_1 hl143_1; have HR143_3 := Aside0.mk hi143_3; have HC143_3 := Aside0.mk hl143_3; clear hi143_3 hl143_3; replace p143 := eq_true p143; replace q143 := eq_true q143; have ea_ := Option.some.inj (hx142_1.symm.trans hx143_1); injection ea_ with ea_ en_ ec_; subst ea_; subst ec_; clear en_; have ea_ := Option.some.inj (hx142_3.symm.trans hx143_3); injection ea_ with ea_ en_ ec_; subst ea_; subst ec_; clear en_) | ((with_reducible refine gate_callee (f := 53) rfl ?_); refine goesL_ (some 52) rfl rfl Try.func53 (by kernel_rfl) rfl #[.slice A142_3 ((rd_T87 l0 x5_1).f0.f2.f1).length c142_3, .int .i64 (wrap64 (t141 + 1))] rfl Kit.am ?_; (with_reducible refine (laws_heldFieldS.calls k1 _ _ ((rd_T87 l0 x5_1).f0.f2.f1) (wrap64 (t141 + 1)) t144 _ ?side1 ?side2 A13.out).mono ?_); (case side1 => exact Kit.cr HR143_3.out HB.out); (case side2 => exact HC143_3.out); rintro e w18 ⟨rfl, hb⟩; refine ⟨_, rfl, ?_⟩; replace HB := Kit.hB hb; (try clear hb); (try clear hb2); (try clear hk); (try clear hi)))
                  go_ret
                  exact ⟨Kit.er, Kit.bl⟩
                · rw [if_neg c14] at H
                  have c14b0 : decide (t144 < 0) = false := decide_eq_false c14
                  clear c14
                  replace H := Option.bind_eq_some_iff.mp H
                  obtain ⟨t146, A190, H⟩ := H
                  replace H : (if ((rd_T87 l0 x5_1).f0.f2.f2).toList = t146.toList then (if ((rd_T87 l0 x5_1).f0.f3) = (wrap64 (t144 + 1)) then (if ((rd_T87 l0 x5_1).f0.f4) = (wrap64 ((wrap64 (t144 + 1)) + 1)) then (if (((rd_T87 l0 x5_1).f1) != ((Int.tmod (wrap64 ((wrap64 ((wrap64 (t144 + 1)) + 1)) + 1)) 3) == 0)) = true then (some (-1)) else (laws_heldSlotS.l0 k1 l0 (wrap64 ((wrap64 ((wrap64 ((wrap64 (t144 + 1)) + 1)) + 1)) + 1)) (wrap64 (x5_1 + 1)))) else (some (-1))) else (some (-1))) else (some (-1))) = some r := H
                  have A19 := Aside0.mk A190
                  clear A190
                  by_cases c20 : ((rd_T87 l0 x5_1).f0.f2.f2).toList = t146.toList
                  · rw [if_pos c20] at H
                    have c20b0 : (((rd_T87 l0 x5_1).f0.f2.f2).toList == t146.toList) = true := beq_iff_eq.mpr c20
                    have c20b1 : (((rd_T87 l0 x5_1).f0.f2.f2).toList != t146.toList) = false := bne_eq_false_iff_eq.mpr c20
                    clear c20
                    by_cases c21 : ((rd_T87 l0 x5_1).f0.f3) = (wrap64 (t144 + 1))
                    · rw [if_pos c21] at H
                      have c21b0 : (((rd_T87 l0 x5_1).f0.f3) == (wrap64 (t144 + 1))) = true := beq_iff_eq.mpr c21
                      have c21b1 : (((rd_T87 l0 x5_1).f0.f3) != (wrap64 (t144 + 1))) = false := bne_eq_false_iff_eq.mpr c21
                      clear c21
                      by_cases c22 : ((rd_T87 l0 x5_1).f0.f4) = (wrap64 ((wrap64 (t144 + 1)) + 1))
                      · rw [if_pos c22] at H
                        have c22b0 : (((rd_T87 l0 x5_1).f0.f4) == (wrap64 ((wrap64 (t144 + 1)) + 1))) = true := beq_iff_eq.mpr c22
                        have c22b1 : (((rd_T87 l0 x5_1).f0.f4) != (wrap64 ((wrap64 (t144 + 1)) + 1))) = false := bne_eq_false_iff_eq.mpr c22
                        clear c22
                        by_cases c23 : (((rd_T87 l0 x5_1).f1) != ((Int.tmod (wrap64 ((wrap64 ((wrap64 (t144 + 1)) + 1)) + 1)) 3) == 0)) = true
                        · rw [if_pos c23] at H
                          have c23b0 : (((rd_T87 l0 x5_1).f1) != ((Int.tmod (wrap64 ((wrap64 ((wrap64 (t144 + 1)) + 1)) + 1)) 3) == 0)) = true := c23
                          (try (have c23b1 : decide (((rd_T87 l0 x5_1).f1) = ((Int.tmod (wrap64 ((wrap64 ((wrap64 (t144 + 1)) + 1)) + 1)) 3) == 0)) = false := by simpa using c23))
                          (try (have c23b2 : (((rd_T87 l0 x5_1).f1) == ((Int.tmod (wrap64 ((wrap64 ((wrap64 (t144 + 1)) + 1)) + 1)) 3) == 0)) = false := by simpa using c23))
                          (try (have c23b3 : ¬ (((rd_T87 l0 x5_1).f1) = ((Int.tmod (wrap64 ((wrap64 ((wrap64 (t144 + 1)) + 1)) + 1)) 3) == 0)) := by simpa using c23))
                          clear c23
                          obtain rfl := Option.some.inj H
                          try go_wp2
                          replace HB := Aside0.mk (below_drew1 HB.out)
                          have p138 : 0 ≤ (x5_1 : Int) := of_decide_eq_true Kit.asm
                          have q138 : x5_1 < (l0.length : Int) := of_decide_eq_true Kit.asm
                          obtain ⟨ad138, A138_1, c138_1, A138_3, c138_3, e138, hx138_0, hx138_1, hx138_2, hx138_3, hx138_4, hx138_5, hx138_6, hx138_7, hl138_1, hi138_1, hl138_3, hi138_3⟩ := at_T87 HR0.out x5_1 p138 q138
                          have hk138_1 := Aside0.mk hx138_1
                          have hk138_3 := Aside0.mk hx138_3
                          have hw138_7 := hx138_7
                          have hw138_6 := hx138_6
                          have hw138_5 := hx138_5
                          have hw138_4 := hx138_4
                          have hw138_3 := hx138_3
                          have hw138_2 := hx138_2
                          have hw138_1 := hx138_1
                          have hw138_0 := hx138_0
                          cases e138
                          replace hx138_0 := Kit.hx HB.out hx138_0
                          replace hx138_1 := Kit.hx HB.out hx138_1
                          replace hx138_2 := Kit.hx HB.out hx138_2
                          replace hx138_3 := Kit.hx HB.out hx138_3
                          replace hx138_4 := Kit.hx HB.out hx138_4
                          replace hx138_5 := Kit.hx HB.out hx138_5
                          replace hx138_6 := Kit.hx HB.out hx138_6
                          replace hx138_7 := Kit.hx HB.out hx138_7
                          have HR138_1 := Aside0.mk hi138_1
                          have HC138_1 := Aside0.mk hl138_1
                          clear hi138_1 hl138_1
                          have HR138_3 := Aside0.mk hi138_3
                          have HC138_3 := Aside0.mk hl138_3
                          clear hi138_3 hl138_3
                          replace p138 := eq_true p138
                          replace q138 := eq_true q138
                          refine start_ (n := 9) (S := fun w' => w'.cell? (ad138.add ((x5_1).toNat * 8)) = some (.string ((rd_T87 l0 x5_1).f0.f0)) ∧ w'.cell? ⟨(ad138.add ((x5_1).toNat * 8)).block, (ad138.add ((x5_1).toNat * 8)).off + 1, none⟩ = some (.slice A138_1 ((rd_T87 l0 x5_1).f0.f1).length c138_1) ∧ w'.cell? ⟨(ad138.add ((x5_1).toNat * 8)).block, (ad138.add ((x5_1).toNat * 8)).off + 2, none⟩ = some (.int .i64 ((rd_T87 l0 x5_1).f0.f2.f0)) ∧ w'.cell? ⟨(ad138.add ((x5_1).toNat * 8)).block, (ad138.add ((x5_1).toNat * 8)).off + 3, none⟩ = some (.slice A138_3 ((rd_T87 l0 x5_1).f0.f2.f1).length c138_3) ∧ w'.cell? ⟨(ad138.add ((x5_1).toNat * 8)).block, (ad138.add ((x5_1).toNat * 8)).off + 4, none⟩ = some (.string ((rd_T87 l0 x5_1).f0.f2.f2)) ∧ w'.cell? ⟨(ad138.add ((x5_1).toNat * 8)).block, (ad138.add ((x5_1).toNat * 8)).off + 5, none⟩ = some (.int .i64 ((rd_T87 l0 x5_1).f0.f3)) ∧ w'.cell? ⟨(ad138.add ((x5_1).toNat * 8)).block, (ad138.add ((x5_1).toNat * 8)).off + 6, none⟩ = some (.int .i64 ((rd_T87 l0 x5_1).f0.f4)) ∧ w'.cell? ⟨(ad138.add ((x5_1).toNat * 8)).block, (ad138.add ((x5_1).toNat * 8)).off + 7, none⟩ = some (.bool ((rd_T87 l0 x5_1).f1))) (ds := []) #[false, false, false, false, false, false, false, false, false] (by kernel_rfl) rfl rfl ⟨(Kit.hx HB.out hw138_0), (Kit.hx HB.out hw138_1), (Kit.hx HB.out hw138_2), (Kit.hx HB.out hw138_3), (Kit.hx HB.out hw138_4), (Kit.hx HB.out hw138_5), (Kit.hx HB.out hw138_6), (Kit.hx HB.out hw138_7)⟩ (fun hHeld => ?_); refine with_tabW laws_heldSlotS.tab4 laws_heldSlotS.bits4 (fun HT_ HW_ => ?_)
                          generalize wr.drew = w24 at HB HR138_1 HR138_3 hx138_0 hx138_1 hx138_2 hx138_3 hx138_4 hx138_5 hx138_6 hx138_7 hHeld ⊢
                          refine pure_ (i := 0) (N := some 12) (v := ?_) (a' := ?_) #[true, false, false, false, false, false, false, false, false] rfl rfl (any_of HT_.out (by kernel_rfl)) (fun _ _ _ h => h) (Or.inl ⟨by rfl, ?_⟩) ?_ ?_
                          rotate_left
                          · intro w'
                            go_simp
                            with_reducible rfl
                          rotate_left
                          · simp only [Act.put, List.setIfInBounds_toArray, List.set_cons_zero, List.set_cons_succ, i64_w, i32_w]
                            rfl
                          refine pure_ (i := 1) (N := some 13) (v := ?_) (a' := ?_) #[true, true, false, false, false, false, false, false, false] rfl rfl (any_of HT_.out (by kernel_rfl)) (fun _ _ _ h => h) (Or.inl ⟨by rfl, ?_⟩) ?_ ?_
                          rotate_left
                          · intro w'
                            go_simp
                            with_reducible rfl
                          rotate_left
                          · simp only [Act.put, List.setIfInBounds_toArray, List.set_cons_zero, List.set_cons_succ, i64_w, i32_w]
                            rfl
                          refine pure_ (i := 2) (N := some 14) (v := ?_) (a' := ?_) #[true, true, true, false, false, false, false, false, false] rfl rfl (any_of HT_.out (by kernel_rfl)) (fun _ _ _ h => h) (Or.inl ⟨by rfl, ?_⟩) ?_ ?_
                          rotate_left
                          · intro w'
                            go_simp
                            with_reducible rfl
                          rotate_left
                          · simp only [Act.put, List.setIfInBounds_toArray, List.set_cons_zero, List.set_cons_succ, i64_w, i32_w]
                            rfl
                          refine pure_ (i := 3) (N := some 15) (v := ?_) (a' := ?_) #[true, true, true, true, false, false, false, false, false] rfl rfl (any_of HT_.out (by kernel_rfl)) (fun _ _ _ h => h) (Or.inl ⟨by rfl, ?_⟩) ?_ ?_
                          rotate_left
                          · intro w'
                            go_simp
                            with_reducible rfl
                          rotate_left
                          · simp only [Act.put, List.setIfInBounds_toArray, List.set_cons_zero, List.set_cons_succ, i64_w, i32_w]
                            rfl
                          refine pure_ (i := 4) (N := some 16) (v := ?_) (a' := ?_) #[true, true, true, true, true, false, false, false, false] rfl rfl (any_of HT_.out (by kernel_rfl)) (fun _ _ _ h => h) (Or.inl ⟨by rfl, ?_⟩) ?_ ?_
                          rotate_left
                          · intro w'
                            go_simp
                            with_reducible rfl
                          rotate_left
                          · simp only [Act.put, List.setIfInBounds_toArray, List.set_cons_zero, List.set_cons_succ, i64_w, i32_w]
                            rfl
                          refine pure_ (i := 6) (N := some 18) (v := ?_) (a' := ?_) #[true, true, true, true, true, false, true, false, false] rfl rfl (any_of HT_.out (by kernel_rfl)) (fun _ _ _ h => h) (Or.inl ⟨by rfl, ?_⟩) ?_ ?_
                          rotate_left
                          · intro w'
                            go_simp
                            with_reducible rfl
                          rotate_left
                          · simp only [Act.put, List.setIfInBounds_toArray, List.set_cons_zero, List.set_cons_succ, i64_w, i32_w]
                            rfl
                          refine take_ (i := 5) (N := some 17) (v := ?_) (a' := ?_) #[true, true, true, true, true, true, true, false, false] rfl rfl (take_ofW HT_.out HW_.out (by kernel_rfl)) (fun _ _ _ h => h) (Or.inl ⟨by rfl, ?_⟩) hHeld ?_ ?_
                          rotate_left
                          · rintro w' ⟨s0, s1, s2, s3, s4, s5, s6, s7⟩
                            go_simp
                            with_reducible rfl
                          rotate_left
                          · simp only [Act.put, List.setIfInBounds_toArray, List.set_cons_zero, List.set_cons_succ, i64_w, i32_w]
                            rfl
                          refine one_ (i := 7) (N := some 19) #[true, true, true, true, true, true, true, true, false] rfl rfl (one_of HT_.out (by kernel_rfl)) (by decide) (fun K hK => ?_)
                          refine goes_ Try.func78 (by kernel_rfl) rfl #[.int .i64 x1_1] (by rfl) rfl rfl Kit.am ?_
                          with_reducible refine (laws_markText.calls k1 x1_1 t139 _ A5.out).mono ?_
                          rintro e w25 ⟨rfl, hb⟩
                          refine ⟨_, rfl, ?_⟩
                          replace HB := Kit.hB hb
                          (try clear hb)
                          (try clear hb2)
                          (try clear hk)
                          (try clear hi)
                          refine hK.out _ _ ⟨(Kit.hx HB.out hw138_0), (Kit.hx HB.out hw138_1), (Kit.hx HB.out hw138_2), (Kit.hx HB.out hw138_3), (Kit.hx HB.out hw138_4), (Kit.hx HB.out hw138_5), (Kit.hx HB.out hw138_6), (Kit.hx HB.out hw138_7)⟩ (fun hHeld => ?_)
                          clear hK K
                          refine norm_ (a' := ?_) ?_ ?_
                          rotate_left
                          · show Act.put _ (some 19) _ = _
                            simp only [Act.put, List.setIfInBounds_toArray, List.set_cons_zero, List.set_cons_succ, i64_w, i32_w]
                            rfl
                          refine pure_ (i := 8) (N := some 20) (v := ?_) (a' := ?_) #[true, true, true, true, true, true, true, true, true] rfl rfl (any_of HT_.out (by kernel_rfl)) (fun _ _ _ h => h) (Or.inl ⟨by rfl, ?_⟩) ?_ ?_
                          rotate_left
                          · intro w'
                            go_simp
                            with_reducible rfl
                          rotate_left
                          · simp only [Act.put, List.setIfInBounds_toArray, List.set_cons_zero, List.set_cons_succ, i64_w, i32_w]
                            rfl
                          refine done_ (done_of HT_.out (by kernel_rfl)) ?_
                          have p140 : 0 ≤ (x5_1 : Int) := of_decide_eq_true Kit.asm
                          have q140 : x5_1 < (l0.length : Int) := of_decide_eq_true Kit.asm
                          obtain ⟨ad140, A140_1, c140_1, A140_3, c140_3, e140, hx140_0, hx140_1, hx140_2, hx140_3, hx140_4, hx140_5, hx140_6, hx140_7, hl140_1, hi140_1, hl140_3, hi140_3⟩ := at_T87 HR0.out x5_1 p140 q140
                          have hk140_1 := Aside0.mk hx140_1
                          have hk140_3 := Aside0.mk hx140_3
                          obtain rfl : ad138 = ad140 := (by injection e140)
                          try (have e_ := hx140_1.symm.trans hk138_1.out; injection e_ with e_; injection e_ with e_1 e_2 e_3; subst e_1; subst e_3)
                          try (have e_ := hx140_3.symm.trans hk138_3.out; injection e_ with e_; injection e_ with e_1 e_2 e_3; subst e_1; subst e_3)
                          replace hx140_0 := Kit.hx HB.out hx140_0
                          replace hx140_1 := Kit.hx HB.out hx140_1
                          replace hx140_2 := Kit.hx HB.out hx140_2
                          replace hx140_3 := Kit.hx HB.out hx140_3
                          replace hx140_4 := Kit.hx HB.out hx140_4
                          replace hx140_5 := Kit.hx HB.out hx140_5
                          replace hx140_6 := Kit.hx HB.out hx140_6
                          replace hx140_7 := Kit.hx HB.out hx140_7
                          have HR140_1 := Aside0.mk hi140_1
                          have HC140_1 := Aside0.mk hl140_1
                          clear hi140_1 hl140_1
                          have HR140_3 := Aside0.mk hi140_3
                          have HC140_3 := Aside0.mk hl140_3
                          clear hi140_3 hl140_3
                          replace p140 := eq_true p140
                          replace q140 := eq_true q140
                          try go_wp2_with (first | ((with_reducible refine gate_callee (f := 53) rfl ?_); refine goesL_ (some 30) rfl rfl Try.func53 (by kernel_rfl) rfl #[.slice A140_1 ((rd_T87 l0 x5_1).f0.f1).length c140_1, .int .i64 (wrap64 (x1_1 + 1))] rfl Kit.am ?_; (with_reducible refine (laws_heldFieldS.calls k1 _ _ ((rd_T87 l0 x5_1).f0.f1) (wrap64 (x1_1 + 1)) t141 _ ?side1 ?side2 A7.out).mono ?_); (case side1 => exact Kit.cr HR140_1.out HB.out); (case side2 => exact HC140_1.out); rintro e w26 ⟨rfl, hb⟩; refine ⟨_, rfl, ?_⟩; replace HB := Kit.hB hb; (try clear hb); (try clear hb2); (try clear hk); (try clear hi); have p142 : 0 ≤ (x5_1 : Int) := of_decide_eq_true Kit.asm; have q142 : x5_1 < (l0.length : Int) := of_decide_eq_true Kit.asm; obtain ⟨ad142, A142_1, c142_1, A142_3, c142_3, e142, hx142_0, hx142_1, hx142_2, hx142_3, hx142_4, hx142_5, hx142_6, hx142_7, hl142_1, hi142_1, hl142_3, hi142_3⟩ := at_T87 HR0.out x5_1 p142 q142; obtain rfl : ad138 = ad142 := (by injection e142); replace hx142_0 := Kit.hx HB.out hx142_0; replace hx142_1 := Kit.hx HB.out hx142_1; replace hx142_2 := Kit.hx HB.out hx142_2; replace hx142_3 := Kit.hx HB.out hx142_3; replace hx142_4 := Kit.hx HB.out hx142_4; replace hx142_5 := Kit.hx HB.out hx142_5; replace hx142_6 := Kit.hx HB.out hx142_6; replace hx142_7 := Kit.hx HB.out hx142_7; have HR142_1 := Aside0.mk hi142_1; have HC142_1 := Aside0.mk hl142_1; clear hi142_1 hl142_1; have HR142_3 := Aside0.mk hi142_3; have HC142_3 := Aside0.mk hl142_3; clear hi142_3 hl142_3; replace p142 := eq_true p142; replace q142 := eq_true q142; have p143 : 0 ≤ (x5_1 : Int) := of_decide_eq_true Kit.asm; have q143 : x5_1 < (l0.length : Int) := of_decide_eq_true Kit.asm; obtain ⟨ad143, A143_1, c143_1, A143_3, c143_3, e143, hx143_0, hx143_1, hx143_2, hx143_3, hx143_4, hx143_5, hx143_6, hx143_7, hl143_1, hi143_1, hl143_3, hi143_3⟩ := at_T87 HR0.out x5_1 p143 q143; obtain rfl : ad138 = ad143 := (by injection e143); replace hx143_0 := Kit.hx HB.out hx143_0; replace hx143_1 := Kit.hx HB.out hx143_1; replace hx143_2 := Kit.hx HB.out hx143_2; replace hx143_3 := Kit.hx HB.out hx143_3; replace hx143_4 := Kit.hx HB.out hx143_4; replace hx143_5 := Kit.hx HB.out hx143_5; replace hx143_6 := Kit.hx HB.out hx143_6; replace hx143_7 := Kit.hx HB.out hx143_7; have HR143_1 := Aside0.mk hi143_1; have HC143_1 := Aside0.mk hl143_1; clear hi143_1 hl143_1; have HR143_3 := Aside0.mk hi143_3; have HC143_3 := Aside0.mk hl143_3; clear hi143_3 hl143_3; replace p143 := eq_true p143; replace q143 := eq_true q143; have ea_ := Option.some.inj (hx142_1.symm.trans hx143_1); injection ea_ with ea_ en_ ec_; subst ea_; subst ec_; clear en_; have ea_ := Option.some.inj (hx142_3.symm.trans hx143_3); injection ea_ with ea_ en_ ec_; subst ea_; subst ec_; clear en_) | ((with_reducible refine gate_callee (f := 53) rfl ?_); refine goesL_ (some 52) rfl rfl Try.func53 (by kernel_rfl) rfl #[.slice A142_3 ((rd_T87 l0 x5_1).f0.f2.f1).length c142_3, .int .i64 (wrap64 (t141 + 1))] rfl Kit.am ?_; (with_reducible refine (laws_heldFieldS.calls k1 _ _ ((rd_T87 l0 x5_1).f0.f2.f1) (wrap64 (t141 + 1)) t144 _ ?side1 ?side2 A13.out).mono ?_); (case side1 => exact Kit.cr HR143_3.out HB.out); (case side2 => exact HC143_3.out); rintro e w27 ⟨rfl, hb⟩; refine ⟨_, rfl, ?_⟩; replace HB := Kit.hB hb; (try clear hb); (try clear hb2); (try clear hk); (try clear hi)))
                          replace HB := Aside0.mk (below_drew1 HB.out)
                          have p145 : 0 ≤ (x5_1 : Int) := of_decide_eq_true Kit.asm
                          have q145 : x5_1 < (l0.length : Int) := of_decide_eq_true Kit.asm
                          obtain ⟨ad145, A145_1, c145_1, A145_3, c145_3, e145, hx145_0, hx145_1, hx145_2, hx145_3, hx145_4, hx145_5, hx145_6, hx145_7, hl145_1, hi145_1, hl145_3, hi145_3⟩ := at_T87 HR0.out x5_1 p145 q145
                          have hk145_1 := Aside0.mk hx145_1
                          have hk145_3 := Aside0.mk hx145_3
                          have hw145_7 := hx145_7
                          have hw145_6 := hx145_6
                          have hw145_5 := hx145_5
                          have hw145_4 := hx145_4
                          have hw145_3 := hx145_3
                          have hw145_2 := hx145_2
                          have hw145_1 := hx145_1
                          have hw145_0 := hx145_0
                          obtain rfl : ad138 = ad145 := (by injection e145)
                          replace hx145_0 := Kit.hx HB.out hx145_0
                          replace hx145_1 := Kit.hx HB.out hx145_1
                          replace hx145_2 := Kit.hx HB.out hx145_2
                          replace hx145_3 := Kit.hx HB.out hx145_3
                          replace hx145_4 := Kit.hx HB.out hx145_4
                          replace hx145_5 := Kit.hx HB.out hx145_5
                          replace hx145_6 := Kit.hx HB.out hx145_6
                          replace hx145_7 := Kit.hx HB.out hx145_7
                          have HR145_1 := Aside0.mk hi145_1
                          have HC145_1 := Aside0.mk hl145_1
                          clear hi145_1 hl145_1
                          have HR145_3 := Aside0.mk hi145_3
                          have HC145_3 := Aside0.mk hl145_3
                          clear hi145_3 hl145_3
                          replace p145 := eq_true p145
                          replace q145 := eq_true q145
                          refine start_ (n := 10) (S := fun w' => w'.cell? (ad138.add ((x5_1).toNat * 8)) = some (.string ((rd_T87 l0 x5_1).f0.f0)) ∧ w'.cell? ⟨(ad138.add ((x5_1).toNat * 8)).block, (ad138.add ((x5_1).toNat * 8)).off + 1, none⟩ = some (.slice A145_1 ((rd_T87 l0 x5_1).f0.f1).length c145_1) ∧ w'.cell? ⟨(ad138.add ((x5_1).toNat * 8)).block, (ad138.add ((x5_1).toNat * 8)).off + 2, none⟩ = some (.int .i64 ((rd_T87 l0 x5_1).f0.f2.f0)) ∧ w'.cell? ⟨(ad138.add ((x5_1).toNat * 8)).block, (ad138.add ((x5_1).toNat * 8)).off + 3, none⟩ = some (.slice A145_3 ((rd_T87 l0 x5_1).f0.f2.f1).length c145_3) ∧ w'.cell? ⟨(ad138.add ((x5_1).toNat * 8)).block, (ad138.add ((x5_1).toNat * 8)).off + 4, none⟩ = some (.string ((rd_T87 l0 x5_1).f0.f2.f2)) ∧ w'.cell? ⟨(ad138.add ((x5_1).toNat * 8)).block, (ad138.add ((x5_1).toNat * 8)).off + 5, none⟩ = some (.int .i64 ((rd_T87 l0 x5_1).f0.f3)) ∧ w'.cell? ⟨(ad138.add ((x5_1).toNat * 8)).block, (ad138.add ((x5_1).toNat * 8)).off + 6, none⟩ = some (.int .i64 ((rd_T87 l0 x5_1).f0.f4)) ∧ w'.cell? ⟨(ad138.add ((x5_1).toNat * 8)).block, (ad138.add ((x5_1).toNat * 8)).off + 7, none⟩ = some (.bool ((rd_T87 l0 x5_1).f1))) (ds := []) #[false, false, false, false, false, false, false, false, false, false] (by kernel_rfl) rfl rfl ⟨(Kit.hx HB.out hw145_0), (Kit.hx HB.out hw145_1), (Kit.hx HB.out hw145_2), (Kit.hx HB.out hw145_3), (Kit.hx HB.out hw145_4), (Kit.hx HB.out hw145_5), (Kit.hx HB.out hw145_6), (Kit.hx HB.out hw145_7)⟩ (fun hHeld => ?_); refine with_tabW laws_heldSlotS.tab16 laws_heldSlotS.bits16 (fun HT_ HW_ => ?_)
                          generalize w27.drew = w28 at HB HR145_1 HR145_3 hx145_0 hx145_1 hx145_2 hx145_3 hx145_4 hx145_5 hx145_6 hx145_7 hHeld ⊢
                          refine pure_ (i := 0) (N := some 55) (v := ?_) (a' := ?_) #[true, false, false, false, false, false, false, false, false, false] rfl rfl (any_of HT_.out (by kernel_rfl)) (fun _ _ _ h => h) (Or.inl ⟨by rfl, ?_⟩) ?_ ?_
                          rotate_left
                          · intro w'
                            go_simp
                            with_reducible rfl
                          rotate_left
                          · simp only [Act.put, List.setIfInBounds_toArray, List.set_cons_zero, List.set_cons_succ, i64_w, i32_w]
                            rfl
                          refine pure_ (i := 1) (N := some 56) (v := ?_) (a' := ?_) #[true, true, false, false, false, false, false, false, false, false] rfl rfl (any_of HT_.out (by kernel_rfl)) (fun _ _ _ h => h) (Or.inl ⟨by rfl, ?_⟩) ?_ ?_
                          rotate_left
                          · intro w'
                            go_simp
                            with_reducible rfl
                          rotate_left
                          · simp only [Act.put, List.setIfInBounds_toArray, List.set_cons_zero, List.set_cons_succ, i64_w, i32_w]
                            rfl
                          refine pure_ (i := 2) (N := some 57) (v := ?_) (a' := ?_) #[true, true, true, false, false, false, false, false, false, false] rfl rfl (any_of HT_.out (by kernel_rfl)) (fun _ _ _ h => h) (Or.inl ⟨by rfl, ?_⟩) ?_ ?_
                          rotate_left
                          · intro w'
                            go_simp
                            with_reducible rfl
                          rotate_left
                          · simp only [Act.put, List.setIfInBounds_toArray, List.set_cons_zero, List.set_cons_succ, i64_w, i32_w]
                            rfl
                          refine pure_ (i := 3) (N := some 58) (v := ?_) (a' := ?_) #[true, true, true, true, false, false, false, false, false, false] rfl rfl (any_of HT_.out (by kernel_rfl)) (fun _ _ _ h => h) (Or.inl ⟨by rfl, ?_⟩) ?_ ?_
                          rotate_left
                          · intro w'
                            go_simp
                            with_reducible rfl
                          rotate_left
                          · simp only [Act.put, List.setIfInBounds_toArray, List.set_cons_zero, List.set_cons_succ, i64_w, i32_w]
                            rfl
                          refine pure_ (i := 4) (N := some 59) (v := ?_) (a' := ?_) #[true, true, true, true, true, false, false, false, false, false] rfl rfl (any_of HT_.out (by kernel_rfl)) (fun _ _ _ h => h) (Or.inl ⟨by rfl, ?_⟩) ?_ ?_
                          rotate_left
                          · intro w'
                            go_simp
                            with_reducible rfl
                          rotate_left
                          · simp only [Act.put, List.setIfInBounds_toArray, List.set_cons_zero, List.set_cons_succ, i64_w, i32_w]
                            rfl
                          refine pure_ (i := 5) (N := some 60) (v := ?_) (a' := ?_) #[true, true, true, true, true, true, false, false, false, false] rfl rfl (any_of HT_.out (by kernel_rfl)) (fun _ _ _ h => h) (Or.inl ⟨by rfl, ?_⟩) ?_ ?_
                          rotate_left
                          · intro w'
                            go_simp
                            with_reducible rfl
                          rotate_left
                          · simp only [Act.put, List.setIfInBounds_toArray, List.set_cons_zero, List.set_cons_succ, i64_w, i32_w]
                            rfl
                          refine pure_ (i := 7) (N := some 62) (v := ?_) (a' := ?_) #[true, true, true, true, true, true, false, true, false, false] rfl rfl (any_of HT_.out (by kernel_rfl)) (fun _ _ _ h => h) (Or.inl ⟨by rfl, ?_⟩) ?_ ?_
                          rotate_left
                          · intro w'
                            go_simp
                            with_reducible rfl
                          rotate_left
                          · simp only [Act.put, List.setIfInBounds_toArray, List.set_cons_zero, List.set_cons_succ, i64_w, i32_w]
                            rfl
                          refine take_ (i := 6) (N := some 61) (v := ?_) (a' := ?_) #[true, true, true, true, true, true, true, true, false, false] rfl rfl (take_ofW HT_.out HW_.out (by kernel_rfl)) (fun _ _ _ h => h) (Or.inl ⟨by rfl, ?_⟩) hHeld ?_ ?_
                          rotate_left
                          · rintro w' ⟨s0, s1, s2, s3, s4, s5, s6, s7⟩
                            go_simp
                            with_reducible rfl
                          rotate_left
                          · simp only [Act.put, List.setIfInBounds_toArray, List.set_cons_zero, List.set_cons_succ, i64_w, i32_w]
                            rfl
                          refine one_ (i := 8) (N := some 63) #[true, true, true, true, true, true, true, true, true, false] rfl rfl (one_of HT_.out (by kernel_rfl)) (by decide) (fun K hK => ?_)
                          refine goes_ Try.func78 (by kernel_rfl) rfl #[.int .i64 t144] (by rfl) rfl rfl Kit.am ?_
                          with_reducible refine (laws_markText.calls k1 t144 t146 _ A19.out).mono ?_
                          rintro e w29 ⟨rfl, hb⟩
                          refine ⟨_, rfl, ?_⟩
                          replace HB := Kit.hB hb
                          (try clear hb)
                          (try clear hb2)
                          (try clear hk)
                          (try clear hi)
                          refine hK.out _ _ ⟨(Kit.hx HB.out hw145_0), (Kit.hx HB.out hw145_1), (Kit.hx HB.out hw145_2), (Kit.hx HB.out hw145_3), (Kit.hx HB.out hw145_4), (Kit.hx HB.out hw145_5), (Kit.hx HB.out hw145_6), (Kit.hx HB.out hw145_7)⟩ (fun hHeld => ?_)
                          clear hK K
                          refine norm_ (a' := ?_) ?_ ?_
                          rotate_left
                          · show Act.put _ (some 63) _ = _
                            simp only [Act.put, List.setIfInBounds_toArray, List.set_cons_zero, List.set_cons_succ, i64_w, i32_w]
                            rfl
                          refine pure_ (i := 9) (N := some 64) (v := ?_) (a' := ?_) #[true, true, true, true, true, true, true, true, true, true] rfl rfl (any_of HT_.out (by kernel_rfl)) (fun _ _ _ h => h) (Or.inl ⟨by rfl, ?_⟩) ?_ ?_
                          rotate_left
                          · intro w'
                            go_simp
                            with_reducible rfl
                          rotate_left
                          · simp only [Act.put, List.setIfInBounds_toArray, List.set_cons_zero, List.set_cons_succ, i64_w, i32_w]
                            rfl
                          refine done_ (done_of HT_.out (by kernel_rfl)) ?_
                          have p147 : 0 ≤ (x5_1 : Int) := of_decide_eq_true Kit.asm
                          have q147 : x5_1 < (l0.length : Int) := of_decide_eq_true Kit.asm
                          obtain ⟨ad147, A147_1, c147_1, A147_3, c147_3, e147, hx147_0, hx147_1, hx147_2, hx147_3, hx147_4, hx147_5, hx147_6, hx147_7, hl147_1, hi147_1, hl147_3, hi147_3⟩ := at_T87 HR0.out x5_1 p147 q147
                          have hk147_1 := Aside0.mk hx147_1
                          have hk147_3 := Aside0.mk hx147_3
                          obtain rfl : ad138 = ad147 := (by injection e147)
                          try (have e_ := hx147_1.symm.trans hk138_1.out; injection e_ with e_; injection e_ with e_1 e_2 e_3; subst e_1; subst e_3)
                          try (have e_ := hx147_3.symm.trans hk138_3.out; injection e_ with e_; injection e_ with e_1 e_2 e_3; subst e_1; subst e_3)
                          try (have e_ := hx147_1.symm.trans hk140_1.out; injection e_ with e_; injection e_ with e_1 e_2 e_3; subst e_1; subst e_3)
                          try (have e_ := hx147_3.symm.trans hk140_3.out; injection e_ with e_; injection e_ with e_1 e_2 e_3; subst e_1; subst e_3)
                          try (have e_ := hx147_1.symm.trans hk145_1.out; injection e_ with e_; injection e_ with e_1 e_2 e_3; subst e_1; subst e_3)
                          try (have e_ := hx147_3.symm.trans hk145_3.out; injection e_ with e_; injection e_ with e_1 e_2 e_3; subst e_1; subst e_3)
                          replace hx147_0 := Kit.hx HB.out hx147_0
                          replace hx147_1 := Kit.hx HB.out hx147_1
                          replace hx147_2 := Kit.hx HB.out hx147_2
                          replace hx147_3 := Kit.hx HB.out hx147_3
                          replace hx147_4 := Kit.hx HB.out hx147_4
                          replace hx147_5 := Kit.hx HB.out hx147_5
                          replace hx147_6 := Kit.hx HB.out hx147_6
                          replace hx147_7 := Kit.hx HB.out hx147_7
                          have HR147_1 := Aside0.mk hi147_1
                          have HC147_1 := Aside0.mk hl147_1
                          clear hi147_1 hl147_1
                          have HR147_3 := Aside0.mk hi147_3
                          have HC147_3 := Aside0.mk hl147_3
                          clear hi147_3 hl147_3
                          replace p147 := eq_true p147
                          replace q147 := eq_true q147
                          have p148 : 0 ≤ (x5_1 : Int) := of_decide_eq_true Kit.asm
                          have q148 : x5_1 < (l0.length : Int) := of_decide_eq_true Kit.asm
                          obtain ⟨ad148, A148_1, c148_1, A148_3, c148_3, e148, hx148_0, hx148_1, hx148_2, hx148_3, hx148_4, hx148_5, hx148_6, hx148_7, hl148_1, hi148_1, hl148_3, hi148_3⟩ := at_T87 HR0.out x5_1 p148 q148
                          have hk148_1 := Aside0.mk hx148_1
                          have hk148_3 := Aside0.mk hx148_3
                          obtain rfl : ad138 = ad148 := (by injection e148)
                          replace hx148_0 := Kit.hx HB.out hx148_0
                          replace hx148_1 := Kit.hx HB.out hx148_1
                          replace hx148_2 := Kit.hx HB.out hx148_2
                          replace hx148_3 := Kit.hx HB.out hx148_3
                          replace hx148_4 := Kit.hx HB.out hx148_4
                          replace hx148_5 := Kit.hx HB.out hx148_5
                          replace hx148_6 := Kit.hx HB.out hx148_6
                          replace hx148_7 := Kit.hx HB.out hx148_7
                          have HR148_1 := Aside0.mk hi148_1
                          have HC148_1 := Aside0.mk hl148_1
                          clear hi148_1 hl148_1
                          have HR148_3 := Aside0.mk hi148_3
                          have HC148_3 := Aside0.mk hl148_3
                          clear hi148_3 hl148_3
                          replace p148 := eq_true p148
                          replace q148 := eq_true q148
                          have ea_ := Option.some.inj (hx147_1.symm.trans hx148_1)
                          injection ea_ with ea_ en_ ec_
                          subst ea_
                          subst ec_
                          clear en_
                          have ea_ := Option.some.inj (hx147_3.symm.trans hx148_3)
                          injection ea_ with ea_ en_ ec_
                          subst ea_
                          subst ec_
                          clear en_
                          have p149 : 0 ≤ (x5_1 : Int) := of_decide_eq_true Kit.asm
                          have q149 : x5_1 < (l0.length : Int) := of_decide_eq_true Kit.asm
                          obtain ⟨ad149, A149_1, c149_1, A149_3, c149_3, e149, hx149_0, hx149_1, hx149_2, hx149_3, hx149_4, hx149_5, hx149_6, hx149_7, hl149_1, hi149_1, hl149_3, hi149_3⟩ := at_T87 HR0.out x5_1 p149 q149
                          have hk149_1 := Aside0.mk hx149_1
                          have hk149_3 := Aside0.mk hx149_3
                          obtain rfl : ad138 = ad149 := (by injection e149)
                          replace hx149_0 := Kit.hx HB.out hx149_0
                          replace hx149_1 := Kit.hx HB.out hx149_1
                          replace hx149_2 := Kit.hx HB.out hx149_2
                          replace hx149_3 := Kit.hx HB.out hx149_3
                          replace hx149_4 := Kit.hx HB.out hx149_4
                          replace hx149_5 := Kit.hx HB.out hx149_5
                          replace hx149_6 := Kit.hx HB.out hx149_6
                          replace hx149_7 := Kit.hx HB.out hx149_7
                          have HR149_1 := Aside0.mk hi149_1
                          have HC149_1 := Aside0.mk hl149_1
                          clear hi149_1 hl149_1
                          have HR149_3 := Aside0.mk hi149_3
                          have HC149_3 := Aside0.mk hl149_3
                          clear hi149_3 hl149_3
                          replace p149 := eq_true p149
                          replace q149 := eq_true q149
                          have ea_ := Option.some.inj (hx147_1.symm.trans hx149_1)
                          injection ea_ with ea_ en_ ec_
                          subst ea_
                          subst ec_
                          clear en_
                          have ea_ := Option.some.inj (hx147_3.symm.trans hx149_3)
                          injection ea_ with ea_ en_ ec_
                          subst ea_
                          subst ec_
                          clear en_
                          try go_wp2
                          go_ret
                          exact ⟨Kit.er, Kit.bl⟩
                        · rw [if_neg c23] at H
                          have c23b0 : (((rd_T87 l0 x5_1).f1) != ((Int.tmod (wrap64 ((wrap64 ((wrap64 (t144 + 1)) + 1)) + 1)) 3) == 0)) = false := by simpa using c23
                          (try (have c23b1 : decide (((rd_T87 l0 x5_1).f1) = ((Int.tmod (wrap64 ((wrap64 ((wrap64 (t144 + 1)) + 1)) + 1)) 3) == 0)) = true := by simpa using c23))
                          (try (have c23b2 : (((rd_T87 l0 x5_1).f1) == ((Int.tmod (wrap64 ((wrap64 ((wrap64 (t144 + 1)) + 1)) + 1)) 3) == 0)) = true := by simpa using c23))
                          clear c23
                          have H' := Aside0.mk H
                          clear H
                          try go_wp2
                          replace HB := Aside0.mk (below_drew1 HB.out)
                          have p138 : 0 ≤ (x5_1 : Int) := of_decide_eq_true Kit.asm
                          have q138 : x5_1 < (l0.length : Int) := of_decide_eq_true Kit.asm
                          obtain ⟨ad138, A138_1, c138_1, A138_3, c138_3, e138, hx138_0, hx138_1, hx138_2, hx138_3, hx138_4, hx138_5, hx138_6, hx138_7, hl138_1, hi138_1, hl138_3, hi138_3⟩ := at_T87 HR0.out x5_1 p138 q138
                          have hk138_1 := Aside0.mk hx138_1
                          have hk138_3 := Aside0.mk hx138_3
                          have hw138_7 := hx138_7
                          have hw138_6 := hx138_6
                          have hw138_5 := hx138_5
                          have hw138_4 := hx138_4
                          have hw138_3 := hx138_3
                          have hw138_2 := hx138_2
                          have hw138_1 := hx138_1
                          have hw138_0 := hx138_0
                          cases e138
                          replace hx138_0 := Kit.hx HB.out hx138_0
                          replace hx138_1 := Kit.hx HB.out hx138_1
                          replace hx138_2 := Kit.hx HB.out hx138_2
                          replace hx138_3 := Kit.hx HB.out hx138_3
                          replace hx138_4 := Kit.hx HB.out hx138_4
                          replace hx138_5 := Kit.hx HB.out hx138_5
                          replace hx138_6 := Kit.hx HB.out hx138_6
                          replace hx138_7 := Kit.hx HB.out hx138_7
                          have HR138_1 := Aside0.mk hi138_1
                          have HC138_1 := Aside0.mk hl138_1
                          clear hi138_1 hl138_1
                          have HR138_3 := Aside0.mk hi138_3
                          have HC138_3 := Aside0.mk hl138_3
                          clear hi138_3 hl138_3
                          replace p138 := eq_true p138
                          replace q138 := eq_true q138
                          refine start_ (n := 9) (S := fun w' => w'.cell? (ad138.add ((x5_1).toNat * 8)) = some (.string ((rd_T87 l0 x5_1).f0.f0)) ∧ w'.cell? ⟨(ad138.add ((x5_1).toNat * 8)).block, (ad138.add ((x5_1).toNat * 8)).off + 1, none⟩ = some (.slice A138_1 ((rd_T87 l0 x5_1).f0.f1).length c138_1) ∧ w'.cell? ⟨(ad138.add ((x5_1).toNat * 8)).block, (ad138.add ((x5_1).toNat * 8)).off + 2, none⟩ = some (.int .i64 ((rd_T87 l0 x5_1).f0.f2.f0)) ∧ w'.cell? ⟨(ad138.add ((x5_1).toNat * 8)).block, (ad138.add ((x5_1).toNat * 8)).off + 3, none⟩ = some (.slice A138_3 ((rd_T87 l0 x5_1).f0.f2.f1).length c138_3) ∧ w'.cell? ⟨(ad138.add ((x5_1).toNat * 8)).block, (ad138.add ((x5_1).toNat * 8)).off + 4, none⟩ = some (.string ((rd_T87 l0 x5_1).f0.f2.f2)) ∧ w'.cell? ⟨(ad138.add ((x5_1).toNat * 8)).block, (ad138.add ((x5_1).toNat * 8)).off + 5, none⟩ = some (.int .i64 ((rd_T87 l0 x5_1).f0.f3)) ∧ w'.cell? ⟨(ad138.add ((x5_1).toNat * 8)).block, (ad138.add ((x5_1).toNat * 8)).off + 6, none⟩ = some (.int .i64 ((rd_T87 l0 x5_1).f0.f4)) ∧ w'.cell? ⟨(ad138.add ((x5_1).toNat * 8)).block, (ad138.add ((x5_1).toNat * 8)).off + 7, none⟩ = some (.bool ((rd_T87 l0 x5_1).f1))) (ds := []) #[false, false, false, false, false, false, false, false, false] (by kernel_rfl) rfl rfl ⟨(Kit.hx HB.out hw138_0), (Kit.hx HB.out hw138_1), (Kit.hx HB.out hw138_2), (Kit.hx HB.out hw138_3), (Kit.hx HB.out hw138_4), (Kit.hx HB.out hw138_5), (Kit.hx HB.out hw138_6), (Kit.hx HB.out hw138_7)⟩ (fun hHeld => ?_); refine with_tabW laws_heldSlotS.tab4 laws_heldSlotS.bits4 (fun HT_ HW_ => ?_)
                          generalize wr.drew = w30 at HB HR138_1 HR138_3 hx138_0 hx138_1 hx138_2 hx138_3 hx138_4 hx138_5 hx138_6 hx138_7 hHeld ⊢
                          refine pure_ (i := 0) (N := some 12) (v := ?_) (a' := ?_) #[true, false, false, false, false, false, false, false, false] rfl rfl (any_of HT_.out (by kernel_rfl)) (fun _ _ _ h => h) (Or.inl ⟨by rfl, ?_⟩) ?_ ?_
                          rotate_left
                          · intro w'
                            go_simp
                            with_reducible rfl
                          rotate_left
                          · simp only [Act.put, List.setIfInBounds_toArray, List.set_cons_zero, List.set_cons_succ, i64_w, i32_w]
                            rfl
                          refine pure_ (i := 1) (N := some 13) (v := ?_) (a' := ?_) #[true, true, false, false, false, false, false, false, false] rfl rfl (any_of HT_.out (by kernel_rfl)) (fun _ _ _ h => h) (Or.inl ⟨by rfl, ?_⟩) ?_ ?_
                          rotate_left
                          · intro w'
                            go_simp
                            with_reducible rfl
                          rotate_left
                          · simp only [Act.put, List.setIfInBounds_toArray, List.set_cons_zero, List.set_cons_succ, i64_w, i32_w]
                            rfl
                          refine pure_ (i := 2) (N := some 14) (v := ?_) (a' := ?_) #[true, true, true, false, false, false, false, false, false] rfl rfl (any_of HT_.out (by kernel_rfl)) (fun _ _ _ h => h) (Or.inl ⟨by rfl, ?_⟩) ?_ ?_
                          rotate_left
                          · intro w'
                            go_simp
                            with_reducible rfl
                          rotate_left
                          · simp only [Act.put, List.setIfInBounds_toArray, List.set_cons_zero, List.set_cons_succ, i64_w, i32_w]
                            rfl
                          refine pure_ (i := 3) (N := some 15) (v := ?_) (a' := ?_) #[true, true, true, true, false, false, false, false, false] rfl rfl (any_of HT_.out (by kernel_rfl)) (fun _ _ _ h => h) (Or.inl ⟨by rfl, ?_⟩) ?_ ?_
                          rotate_left
                          · intro w'
                            go_simp
                            with_reducible rfl
                          rotate_left
                          · simp only [Act.put, List.setIfInBounds_toArray, List.set_cons_zero, List.set_cons_succ, i64_w, i32_w]
                            rfl
                          refine pure_ (i := 4) (N := some 16) (v := ?_) (a' := ?_) #[true, true, true, true, true, false, false, false, false] rfl rfl (any_of HT_.out (by kernel_rfl)) (fun _ _ _ h => h) (Or.inl ⟨by rfl, ?_⟩) ?_ ?_
                          rotate_left
                          · intro w'
                            go_simp
                            with_reducible rfl
                          rotate_left
                          · simp only [Act.put, List.setIfInBounds_toArray, List.set_cons_zero, List.set_cons_succ, i64_w, i32_w]
                            rfl
                          refine pure_ (i := 6) (N := some 18) (v := ?_) (a' := ?_) #[true, true, true, true, true, false, true, false, false] rfl rfl (any_of HT_.out (by kernel_rfl)) (fun _ _ _ h => h) (Or.inl ⟨by rfl, ?_⟩) ?_ ?_
                          rotate_left
                          · intro w'
                            go_simp
                            with_reducible rfl
                          rotate_left
                          · simp only [Act.put, List.setIfInBounds_toArray, List.set_cons_zero, List.set_cons_succ, i64_w, i32_w]
                            rfl
                          refine take_ (i := 5) (N := some 17) (v := ?_) (a' := ?_) #[true, true, true, true, true, true, true, false, false] rfl rfl (take_ofW HT_.out HW_.out (by kernel_rfl)) (fun _ _ _ h => h) (Or.inl ⟨by rfl, ?_⟩) hHeld ?_ ?_
                          rotate_left
                          · rintro w' ⟨s0, s1, s2, s3, s4, s5, s6, s7⟩
                            go_simp
                            with_reducible rfl
                          rotate_left
                          · simp only [Act.put, List.setIfInBounds_toArray, List.set_cons_zero, List.set_cons_succ, i64_w, i32_w]
                            rfl
                          refine one_ (i := 7) (N := some 19) #[true, true, true, true, true, true, true, true, false] rfl rfl (one_of HT_.out (by kernel_rfl)) (by decide) (fun K hK => ?_)
                          refine goes_ Try.func78 (by kernel_rfl) rfl #[.int .i64 x1_1] (by rfl) rfl rfl Kit.am ?_
                          with_reducible refine (laws_markText.calls k1 x1_1 t139 _ A5.out).mono ?_
                          rintro e w31 ⟨rfl, hb⟩
                          refine ⟨_, rfl, ?_⟩
                          replace HB := Kit.hB hb
                          (try clear hb)
                          (try clear hb2)
                          (try clear hk)
                          (try clear hi)
                          refine hK.out _ _ ⟨(Kit.hx HB.out hw138_0), (Kit.hx HB.out hw138_1), (Kit.hx HB.out hw138_2), (Kit.hx HB.out hw138_3), (Kit.hx HB.out hw138_4), (Kit.hx HB.out hw138_5), (Kit.hx HB.out hw138_6), (Kit.hx HB.out hw138_7)⟩ (fun hHeld => ?_)
                          clear hK K
                          refine norm_ (a' := ?_) ?_ ?_
                          rotate_left
                          · show Act.put _ (some 19) _ = _
                            simp only [Act.put, List.setIfInBounds_toArray, List.set_cons_zero, List.set_cons_succ, i64_w, i32_w]
                            rfl
                          refine pure_ (i := 8) (N := some 20) (v := ?_) (a' := ?_) #[true, true, true, true, true, true, true, true, true] rfl rfl (any_of HT_.out (by kernel_rfl)) (fun _ _ _ h => h) (Or.inl ⟨by rfl, ?_⟩) ?_ ?_
                          rotate_left
                          · intro w'
                            go_simp
                            with_reducible rfl
                          rotate_left
                          · simp only [Act.put, List.setIfInBounds_toArray, List.set_cons_zero, List.set_cons_succ, i64_w, i32_w]
                            rfl
                          refine done_ (done_of HT_.out (by kernel_rfl)) ?_
                          have p140 : 0 ≤ (x5_1 : Int) := of_decide_eq_true Kit.asm
                          have q140 : x5_1 < (l0.length : Int) := of_decide_eq_true Kit.asm
                          obtain ⟨ad140, A140_1, c140_1, A140_3, c140_3, e140, hx140_0, hx140_1, hx140_2, hx140_3, hx140_4, hx140_5, hx140_6, hx140_7, hl140_1, hi140_1, hl140_3, hi140_3⟩ := at_T87 HR0.out x5_1 p140 q140
                          have hk140_1 := Aside0.mk hx140_1
                          have hk140_3 := Aside0.mk hx140_3
                          obtain rfl : ad138 = ad140 := (by injection e140)
                          try (have e_ := hx140_1.symm.trans hk138_1.out; injection e_ with e_; injection e_ with e_1 e_2 e_3; subst e_1; subst e_3)
                          try (have e_ := hx140_3.symm.trans hk138_3.out; injection e_ with e_; injection e_ with e_1 e_2 e_3; subst e_1; subst e_3)
                          replace hx140_0 := Kit.hx HB.out hx140_0
                          replace hx140_1 := Kit.hx HB.out hx140_1
                          replace hx140_2 := Kit.hx HB.out hx140_2
                          replace hx140_3 := Kit.hx HB.out hx140_3
                          replace hx140_4 := Kit.hx HB.out hx140_4
                          replace hx140_5 := Kit.hx HB.out hx140_5
                          replace hx140_6 := Kit.hx HB.out hx140_6
                          replace hx140_7 := Kit.hx HB.out hx140_7
                          have HR140_1 := Aside0.mk hi140_1
                          have HC140_1 := Aside0.mk hl140_1
                          clear hi140_1 hl140_1
                          have HR140_3 := Aside0.mk hi140_3
                          have HC140_3 := Aside0.mk hl140_3
                          clear hi140_3 hl140_3
                          replace p140 := eq_true p140
                          replace q140 := eq_true q140
                          try go_wp2_with (first | ((with_reducible refine gate_callee (f := 53) rfl ?_); refine goesL_ (some 30) rfl rfl Try.func53 (by kernel_rfl) rfl #[.slice A140_1 ((rd_T87 l0 x5_1).f0.f1).length c140_1, .int .i64 (wrap64 (x1_1 + 1))] rfl Kit.am ?_; (with_reducible refine (laws_heldFieldS.calls k1 _ _ ((rd_T87 l0 x5_1).f0.f1) (wrap64 (x1_1 + 1)) t141 _ ?side1 ?side2 A7.out).mono ?_); (case side1 => exact Kit.cr HR140_1.out HB.out); (case side2 => exact HC140_1.out); rintro e w32 ⟨rfl, hb⟩; refine ⟨_, rfl, ?_⟩; replace HB := Kit.hB hb; (try clear hb); (try clear hb2); (try clear hk); (try clear hi); have p142 : 0 ≤ (x5_1 : Int) := of_decide_eq_true Kit.asm; have q142 : x5_1 < (l0.length : Int) := of_decide_eq_true Kit.asm; obtain ⟨ad142, A142_1, c142_1, A142_3, c142_3, e142, hx142_0, hx142_1, hx142_2, hx142_3, hx142_4, hx142_5, hx142_6, hx142_7, hl142_1, hi142_1, hl142_3, hi142_3⟩ := at_T87 HR0.out x5_1 p142 q142; obtain rfl : ad138 = ad142 := (by injection e142); replace hx142_0 := Kit.hx HB.out hx142_0; replace hx142_1 := Kit.hx HB.out hx142_1; replace hx142_2 := Kit.hx HB.out hx142_2; replace hx142_3 := Kit.hx HB.out hx142_3; replace hx142_4 := Kit.hx HB.out hx142_4; replace hx142_5 := Kit.hx HB.out hx142_5; replace hx142_6 := Kit.hx HB.out hx142_6; replace hx142_7 := Kit.hx HB.out hx142_7; have HR142_1 := Aside0.mk hi142_1; have HC142_1 := Aside0.mk hl142_1; clear hi142_1 hl142_1; have HR142_3 := Aside0.mk hi142_3; have HC142_3 := Aside0.mk hl142_3; clear hi142_3 hl142_3; replace p142 := eq_true p142; replace q142 := eq_true q142; have p143 : 0 ≤ (x5_1 : Int) := of_decide_eq_true Kit.asm; have q143 : x5_1 < (l0.length : Int) := of_decide_eq_true Kit.asm; obtain ⟨ad143, A143_1, c143_1, A143_3, c143_3, e143, hx143_0, hx143_1, hx143_2, hx143_3, hx143_4, hx143_5, hx143_6, hx143_7, hl143_1, hi143_1, hl143_3, hi143_3⟩ := at_T87 HR0.out x5_1 p143 q143; obtain rfl : ad138 = ad143 := (by injection e143); replace hx143_0 := Kit.hx HB.out hx143_0; replace hx143_1 := Kit.hx HB.out hx143_1; replace hx143_2 := Kit.hx HB.out hx143_2; replace hx143_3 := Kit.hx HB.out hx143_3; replace hx143_4 := Kit.hx HB.out hx143_4; replace hx143_5 := Kit.hx HB.out hx143_5; replace hx143_6 := Kit.hx HB.out hx143_6; replace hx143_7 := Kit.hx HB.out hx143_7; have HR143_1 := Aside0.mk hi143_1; have HC143_1 := Aside0.mk hl143_1; clear hi143_1 hl143_1; have HR143_3 := Aside0.mk hi143_3; have HC143_3 := Aside0.mk hl143_3; clear hi143_3 hl143_3; replace p143 := eq_true p143; replace q143 := eq_true q143; have ea_ := Option.some.inj (hx142_1.symm.trans hx143_1); injection ea_ with ea_ en_ ec_; subst ea_; subst ec_; clear en_; have ea_ := Option.some.inj (hx142_3.symm.trans hx143_3); injection ea_ with ea_ en_ ec_; subst ea_; subst ec_; clear en_) | ((with_reducible refine gate_callee (f := 53) rfl ?_); refine goesL_ (some 52) rfl rfl Try.func53 (by kernel_rfl) rfl #[.slice A142_3 ((rd_T87 l0 x5_1).f0.f2.f1).length c142_3, .int .i64 (wrap64 (t141 + 1))] rfl Kit.am ?_; (with_reducible refine (laws_heldFieldS.calls k1 _ _ ((rd_T87 l0 x5_1).f0.f2.f1) (wrap64 (t141 + 1)) t144 _ ?side1 ?side2 A13.out).mono ?_); (case side1 => exact Kit.cr HR143_3.out HB.out); (case side2 => exact HC143_3.out); rintro e w33 ⟨rfl, hb⟩; refine ⟨_, rfl, ?_⟩; replace HB := Kit.hB hb; (try clear hb); (try clear hb2); (try clear hk); (try clear hi)))
                          replace HB := Aside0.mk (below_drew1 HB.out)
                          have p145 : 0 ≤ (x5_1 : Int) := of_decide_eq_true Kit.asm
                          have q145 : x5_1 < (l0.length : Int) := of_decide_eq_true Kit.asm
                          obtain ⟨ad145, A145_1, c145_1, A145_3, c145_3, e145, hx145_0, hx145_1, hx145_2, hx145_3, hx145_4, hx145_5, hx145_6, hx145_7, hl145_1, hi145_1, hl145_3, hi145_3⟩ := at_T87 HR0.out x5_1 p145 q145
                          have hk145_1 := Aside0.mk hx145_1
                          have hk145_3 := Aside0.mk hx145_3
                          have hw145_7 := hx145_7
                          have hw145_6 := hx145_6
                          have hw145_5 := hx145_5
                          have hw145_4 := hx145_4
                          have hw145_3 := hx145_3
                          have hw145_2 := hx145_2
                          have hw145_1 := hx145_1
                          have hw145_0 := hx145_0
                          obtain rfl : ad138 = ad145 := (by injection e145)
                          replace hx145_0 := Kit.hx HB.out hx145_0
                          replace hx145_1 := Kit.hx HB.out hx145_1
                          replace hx145_2 := Kit.hx HB.out hx145_2
                          replace hx145_3 := Kit.hx HB.out hx145_3
                          replace hx145_4 := Kit.hx HB.out hx145_4
                          replace hx145_5 := Kit.hx HB.out hx145_5
                          replace hx145_6 := Kit.hx HB.out hx145_6
                          replace hx145_7 := Kit.hx HB.out hx145_7
                          have HR145_1 := Aside0.mk hi145_1
                          have HC145_1 := Aside0.mk hl145_1
                          clear hi145_1 hl145_1
                          have HR145_3 := Aside0.mk hi145_3
                          have HC145_3 := Aside0.mk hl145_3
                          clear hi145_3 hl145_3
                          replace p145 := eq_true p145
                          replace q145 := eq_true q145
                          refine start_ (n := 10) (S := fun w' => w'.cell? (ad138.add ((x5_1).toNat * 8)) = some (.string ((rd_T87 l0 x5_1).f0.f0)) ∧ w'.cell? ⟨(ad138.add ((x5_1).toNat * 8)).block, (ad138.add ((x5_1).toNat * 8)).off + 1, none⟩ = some (.slice A145_1 ((rd_T87 l0 x5_1).f0.f1).length c145_1) ∧ w'.cell? ⟨(ad138.add ((x5_1).toNat * 8)).block, (ad138.add ((x5_1).toNat * 8)).off + 2, none⟩ = some (.int .i64 ((rd_T87 l0 x5_1).f0.f2.f0)) ∧ w'.cell? ⟨(ad138.add ((x5_1).toNat * 8)).block, (ad138.add ((x5_1).toNat * 8)).off + 3, none⟩ = some (.slice A145_3 ((rd_T87 l0 x5_1).f0.f2.f1).length c145_3) ∧ w'.cell? ⟨(ad138.add ((x5_1).toNat * 8)).block, (ad138.add ((x5_1).toNat * 8)).off + 4, none⟩ = some (.string ((rd_T87 l0 x5_1).f0.f2.f2)) ∧ w'.cell? ⟨(ad138.add ((x5_1).toNat * 8)).block, (ad138.add ((x5_1).toNat * 8)).off + 5, none⟩ = some (.int .i64 ((rd_T87 l0 x5_1).f0.f3)) ∧ w'.cell? ⟨(ad138.add ((x5_1).toNat * 8)).block, (ad138.add ((x5_1).toNat * 8)).off + 6, none⟩ = some (.int .i64 ((rd_T87 l0 x5_1).f0.f4)) ∧ w'.cell? ⟨(ad138.add ((x5_1).toNat * 8)).block, (ad138.add ((x5_1).toNat * 8)).off + 7, none⟩ = some (.bool ((rd_T87 l0 x5_1).f1))) (ds := []) #[false, false, false, false, false, false, false, false, false, false] (by kernel_rfl) rfl rfl ⟨(Kit.hx HB.out hw145_0), (Kit.hx HB.out hw145_1), (Kit.hx HB.out hw145_2), (Kit.hx HB.out hw145_3), (Kit.hx HB.out hw145_4), (Kit.hx HB.out hw145_5), (Kit.hx HB.out hw145_6), (Kit.hx HB.out hw145_7)⟩ (fun hHeld => ?_); refine with_tabW laws_heldSlotS.tab16 laws_heldSlotS.bits16 (fun HT_ HW_ => ?_)
                          generalize w33.drew = w34 at HB HR145_1 HR145_3 hx145_0 hx145_1 hx145_2 hx145_3 hx145_4 hx145_5 hx145_6 hx145_7 hHeld ⊢
                          refine pure_ (i := 0) (N := some 55) (v := ?_) (a' := ?_) #[true, false, false, false, false, false, false, false, false, false] rfl rfl (any_of HT_.out (by kernel_rfl)) (fun _ _ _ h => h) (Or.inl ⟨by rfl, ?_⟩) ?_ ?_
                          rotate_left
                          · intro w'
                            go_simp
                            with_reducible rfl
                          rotate_left
                          · simp only [Act.put, List.setIfInBounds_toArray, List.set_cons_zero, List.set_cons_succ, i64_w, i32_w]
                            rfl
                          refine pure_ (i := 1) (N := some 56) (v := ?_) (a' := ?_) #[true, true, false, false, false, false, false, false, false, false] rfl rfl (any_of HT_.out (by kernel_rfl)) (fun _ _ _ h => h) (Or.inl ⟨by rfl, ?_⟩) ?_ ?_
                          rotate_left
                          · intro w'
                            go_simp
                            with_reducible rfl
                          rotate_left
                          · simp only [Act.put, List.setIfInBounds_toArray, List.set_cons_zero, List.set_cons_succ, i64_w, i32_w]
                            rfl
                          refine pure_ (i := 2) (N := some 57) (v := ?_) (a' := ?_) #[true, true, true, false, false, false, false, false, false, false] rfl rfl (any_of HT_.out (by kernel_rfl)) (fun _ _ _ h => h) (Or.inl ⟨by rfl, ?_⟩) ?_ ?_
                          rotate_left
                          · intro w'
                            go_simp
                            with_reducible rfl
                          rotate_left
                          · simp only [Act.put, List.setIfInBounds_toArray, List.set_cons_zero, List.set_cons_succ, i64_w, i32_w]
                            rfl
                          refine pure_ (i := 3) (N := some 58) (v := ?_) (a' := ?_) #[true, true, true, true, false, false, false, false, false, false] rfl rfl (any_of HT_.out (by kernel_rfl)) (fun _ _ _ h => h) (Or.inl ⟨by rfl, ?_⟩) ?_ ?_
                          rotate_left
                          · intro w'
                            go_simp
                            with_reducible rfl
                          rotate_left
                          · simp only [Act.put, List.setIfInBounds_toArray, List.set_cons_zero, List.set_cons_succ, i64_w, i32_w]
                            rfl
                          refine pure_ (i := 4) (N := some 59) (v := ?_) (a' := ?_) #[true, true, true, true, true, false, false, false, false, false] rfl rfl (any_of HT_.out (by kernel_rfl)) (fun _ _ _ h => h) (Or.inl ⟨by rfl, ?_⟩) ?_ ?_
                          rotate_left
                          · intro w'
                            go_simp
                            with_reducible rfl
                          rotate_left
                          · simp only [Act.put, List.setIfInBounds_toArray, List.set_cons_zero, List.set_cons_succ, i64_w, i32_w]
                            rfl
                          refine pure_ (i := 5) (N := some 60) (v := ?_) (a' := ?_) #[true, true, true, true, true, true, false, false, false, false] rfl rfl (any_of HT_.out (by kernel_rfl)) (fun _ _ _ h => h) (Or.inl ⟨by rfl, ?_⟩) ?_ ?_
                          rotate_left
                          · intro w'
                            go_simp
                            with_reducible rfl
                          rotate_left
                          · simp only [Act.put, List.setIfInBounds_toArray, List.set_cons_zero, List.set_cons_succ, i64_w, i32_w]
                            rfl
                          refine pure_ (i := 7) (N := some 62) (v := ?_) (a' := ?_) #[true, true, true, true, true, true, false, true, false, false] rfl rfl (any_of HT_.out (by kernel_rfl)) (fun _ _ _ h => h) (Or.inl ⟨by rfl, ?_⟩) ?_ ?_
                          rotate_left
                          · intro w'
                            go_simp
                            with_reducible rfl
                          rotate_left
                          · simp only [Act.put, List.setIfInBounds_toArray, List.set_cons_zero, List.set_cons_succ, i64_w, i32_w]
                            rfl
                          refine take_ (i := 6) (N := some 61) (v := ?_) (a' := ?_) #[true, true, true, true, true, true, true, true, false, false] rfl rfl (take_ofW HT_.out HW_.out (by kernel_rfl)) (fun _ _ _ h => h) (Or.inl ⟨by rfl, ?_⟩) hHeld ?_ ?_
                          rotate_left
                          · rintro w' ⟨s0, s1, s2, s3, s4, s5, s6, s7⟩
                            go_simp
                            with_reducible rfl
                          rotate_left
                          · simp only [Act.put, List.setIfInBounds_toArray, List.set_cons_zero, List.set_cons_succ, i64_w, i32_w]
                            rfl
                          refine one_ (i := 8) (N := some 63) #[true, true, true, true, true, true, true, true, true, false] rfl rfl (one_of HT_.out (by kernel_rfl)) (by decide) (fun K hK => ?_)
                          refine goes_ Try.func78 (by kernel_rfl) rfl #[.int .i64 t144] (by rfl) rfl rfl Kit.am ?_
                          with_reducible refine (laws_markText.calls k1 t144 t146 _ A19.out).mono ?_
                          rintro e w35 ⟨rfl, hb⟩
                          refine ⟨_, rfl, ?_⟩
                          replace HB := Kit.hB hb
                          (try clear hb)
                          (try clear hb2)
                          (try clear hk)
                          (try clear hi)
                          refine hK.out _ _ ⟨(Kit.hx HB.out hw145_0), (Kit.hx HB.out hw145_1), (Kit.hx HB.out hw145_2), (Kit.hx HB.out hw145_3), (Kit.hx HB.out hw145_4), (Kit.hx HB.out hw145_5), (Kit.hx HB.out hw145_6), (Kit.hx HB.out hw145_7)⟩ (fun hHeld => ?_)
                          clear hK K
                          refine norm_ (a' := ?_) ?_ ?_
                          rotate_left
                          · show Act.put _ (some 63) _ = _
                            simp only [Act.put, List.setIfInBounds_toArray, List.set_cons_zero, List.set_cons_succ, i64_w, i32_w]
                            rfl
                          refine pure_ (i := 9) (N := some 64) (v := ?_) (a' := ?_) #[true, true, true, true, true, true, true, true, true, true] rfl rfl (any_of HT_.out (by kernel_rfl)) (fun _ _ _ h => h) (Or.inl ⟨by rfl, ?_⟩) ?_ ?_
                          rotate_left
                          · intro w'
                            go_simp
                            with_reducible rfl
                          rotate_left
                          · simp only [Act.put, List.setIfInBounds_toArray, List.set_cons_zero, List.set_cons_succ, i64_w, i32_w]
                            rfl
                          refine done_ (done_of HT_.out (by kernel_rfl)) ?_
                          have p147 : 0 ≤ (x5_1 : Int) := of_decide_eq_true Kit.asm
                          have q147 : x5_1 < (l0.length : Int) := of_decide_eq_true Kit.asm
                          obtain ⟨ad147, A147_1, c147_1, A147_3, c147_3, e147, hx147_0, hx147_1, hx147_2, hx147_3, hx147_4, hx147_5, hx147_6, hx147_7, hl147_1, hi147_1, hl147_3, hi147_3⟩ := at_T87 HR0.out x5_1 p147 q147
                          have hk147_1 := Aside0.mk hx147_1
                          have hk147_3 := Aside0.mk hx147_3
                          obtain rfl : ad138 = ad147 := (by injection e147)
                          try (have e_ := hx147_1.symm.trans hk138_1.out; injection e_ with e_; injection e_ with e_1 e_2 e_3; subst e_1; subst e_3)
                          try (have e_ := hx147_3.symm.trans hk138_3.out; injection e_ with e_; injection e_ with e_1 e_2 e_3; subst e_1; subst e_3)
                          try (have e_ := hx147_1.symm.trans hk140_1.out; injection e_ with e_; injection e_ with e_1 e_2 e_3; subst e_1; subst e_3)
                          try (have e_ := hx147_3.symm.trans hk140_3.out; injection e_ with e_; injection e_ with e_1 e_2 e_3; subst e_1; subst e_3)
                          try (have e_ := hx147_1.symm.trans hk145_1.out; injection e_ with e_; injection e_ with e_1 e_2 e_3; subst e_1; subst e_3)
                          try (have e_ := hx147_3.symm.trans hk145_3.out; injection e_ with e_; injection e_ with e_1 e_2 e_3; subst e_1; subst e_3)
                          replace hx147_0 := Kit.hx HB.out hx147_0
                          replace hx147_1 := Kit.hx HB.out hx147_1
                          replace hx147_2 := Kit.hx HB.out hx147_2
                          replace hx147_3 := Kit.hx HB.out hx147_3
                          replace hx147_4 := Kit.hx HB.out hx147_4
                          replace hx147_5 := Kit.hx HB.out hx147_5
                          replace hx147_6 := Kit.hx HB.out hx147_6
                          replace hx147_7 := Kit.hx HB.out hx147_7
                          have HR147_1 := Aside0.mk hi147_1
                          have HC147_1 := Aside0.mk hl147_1
                          clear hi147_1 hl147_1
                          have HR147_3 := Aside0.mk hi147_3
                          have HC147_3 := Aside0.mk hl147_3
                          clear hi147_3 hl147_3
                          replace p147 := eq_true p147
                          replace q147 := eq_true q147
                          have p148 : 0 ≤ (x5_1 : Int) := of_decide_eq_true Kit.asm
                          have q148 : x5_1 < (l0.length : Int) := of_decide_eq_true Kit.asm
                          obtain ⟨ad148, A148_1, c148_1, A148_3, c148_3, e148, hx148_0, hx148_1, hx148_2, hx148_3, hx148_4, hx148_5, hx148_6, hx148_7, hl148_1, hi148_1, hl148_3, hi148_3⟩ := at_T87 HR0.out x5_1 p148 q148
                          have hk148_1 := Aside0.mk hx148_1
                          have hk148_3 := Aside0.mk hx148_3
                          obtain rfl : ad138 = ad148 := (by injection e148)
                          replace hx148_0 := Kit.hx HB.out hx148_0
                          replace hx148_1 := Kit.hx HB.out hx148_1
                          replace hx148_2 := Kit.hx HB.out hx148_2
                          replace hx148_3 := Kit.hx HB.out hx148_3
                          replace hx148_4 := Kit.hx HB.out hx148_4
                          replace hx148_5 := Kit.hx HB.out hx148_5
                          replace hx148_6 := Kit.hx HB.out hx148_6
                          replace hx148_7 := Kit.hx HB.out hx148_7
                          have HR148_1 := Aside0.mk hi148_1
                          have HC148_1 := Aside0.mk hl148_1
                          clear hi148_1 hl148_1
                          have HR148_3 := Aside0.mk hi148_3
                          have HC148_3 := Aside0.mk hl148_3
                          clear hi148_3 hl148_3
                          replace p148 := eq_true p148
                          replace q148 := eq_true q148
                          have ea_ := Option.some.inj (hx147_1.symm.trans hx148_1)
                          injection ea_ with ea_ en_ ec_
                          subst ea_
                          subst ec_
                          clear en_
                          have ea_ := Option.some.inj (hx147_3.symm.trans hx148_3)
                          injection ea_ with ea_ en_ ec_
                          subst ea_
                          subst ec_
                          clear en_
                          have p149 : 0 ≤ (x5_1 : Int) := of_decide_eq_true Kit.asm
                          have q149 : x5_1 < (l0.length : Int) := of_decide_eq_true Kit.asm
                          obtain ⟨ad149, A149_1, c149_1, A149_3, c149_3, e149, hx149_0, hx149_1, hx149_2, hx149_3, hx149_4, hx149_5, hx149_6, hx149_7, hl149_1, hi149_1, hl149_3, hi149_3⟩ := at_T87 HR0.out x5_1 p149 q149
                          have hk149_1 := Aside0.mk hx149_1
                          have hk149_3 := Aside0.mk hx149_3
                          obtain rfl : ad138 = ad149 := (by injection e149)
                          replace hx149_0 := Kit.hx HB.out hx149_0
                          replace hx149_1 := Kit.hx HB.out hx149_1
                          replace hx149_2 := Kit.hx HB.out hx149_2
                          replace hx149_3 := Kit.hx HB.out hx149_3
                          replace hx149_4 := Kit.hx HB.out hx149_4
                          replace hx149_5 := Kit.hx HB.out hx149_5
                          replace hx149_6 := Kit.hx HB.out hx149_6
                          replace hx149_7 := Kit.hx HB.out hx149_7
                          have HR149_1 := Aside0.mk hi149_1
                          have HC149_1 := Aside0.mk hl149_1
                          clear hi149_1 hl149_1
                          have HR149_3 := Aside0.mk hi149_3
                          have HC149_3 := Aside0.mk hl149_3
                          clear hi149_3 hl149_3
                          replace p149 := eq_true p149
                          replace q149 := eq_true q149
                          have ea_ := Option.some.inj (hx147_1.symm.trans hx149_1)
                          injection ea_ with ea_ en_ ec_
                          subst ea_
                          subst ec_
                          clear en_
                          have ea_ := Option.some.inj (hx147_3.symm.trans hx149_3)
                          injection ea_ with ea_ en_ ec_
                          subst ea_
                          subst ec_
                          clear en_
                          try go_wp2
                          go_roundg k1
                          case measure => have := HK1.out; omega
                          case rel => exact ⟨(wrap64 ((wrap64 ((wrap64 ((wrap64 (t144 + 1)) + 1)) + 1)) + 1)), (wrap64 (x5_1 + 1)), (by first | rfl | (simp; done) | (simp [*]; done)), (by first | rfl | (simp; done) | (simp [*]; done)), H', ⟨by have := HK1.out; omega⟩, ⟨Kit.bl⟩⟩
                      · rw [if_neg c22] at H
                        have c22b0 : (((rd_T87 l0 x5_1).f0.f4) == (wrap64 ((wrap64 (t144 + 1)) + 1))) = false := beq_eq_false_iff_ne.mpr c22
                        have c22b1 : (((rd_T87 l0 x5_1).f0.f4) != (wrap64 ((wrap64 (t144 + 1)) + 1))) = true := bne_iff_ne.mpr c22
                        obtain rfl := Option.some.inj H
                        try go_wp2
                        replace HB := Aside0.mk (below_drew1 HB.out)
                        have p138 : 0 ≤ (x5_1 : Int) := of_decide_eq_true Kit.asm
                        have q138 : x5_1 < (l0.length : Int) := of_decide_eq_true Kit.asm
                        obtain ⟨ad138, A138_1, c138_1, A138_3, c138_3, e138, hx138_0, hx138_1, hx138_2, hx138_3, hx138_4, hx138_5, hx138_6, hx138_7, hl138_1, hi138_1, hl138_3, hi138_3⟩ := at_T87 HR0.out x5_1 p138 q138
                        have hk138_1 := Aside0.mk hx138_1
                        have hk138_3 := Aside0.mk hx138_3
                        have hw138_7 := hx138_7
                        have hw138_6 := hx138_6
                        have hw138_5 := hx138_5
                        have hw138_4 := hx138_4
                        have hw138_3 := hx138_3
                        have hw138_2 := hx138_2
                        have hw138_1 := hx138_1
                        have hw138_0 := hx138_0
                        cases e138
                        replace hx138_0 := Kit.hx HB.out hx138_0
                        replace hx138_1 := Kit.hx HB.out hx138_1
                        replace hx138_2 := Kit.hx HB.out hx138_2
                        replace hx138_3 := Kit.hx HB.out hx138_3
                        replace hx138_4 := Kit.hx HB.out hx138_4
                        replace hx138_5 := Kit.hx HB.out hx138_5
                        replace hx138_6 := Kit.hx HB.out hx138_6
                        replace hx138_7 := Kit.hx HB.out hx138_7
                        have HR138_1 := Aside0.mk hi138_1
                        have HC138_1 := Aside0.mk hl138_1
                        clear hi138_1 hl138_1
                        have HR138_3 := Aside0.mk hi138_3
                        have HC138_3 := Aside0.mk hl138_3
                        clear hi138_3 hl138_3
                        replace p138 := eq_true p138
                        replace q138 := eq_true q138
                        refine start_ (n := 9) (S := fun w' => w'.cell? (ad138.add ((x5_1).toNat * 8)) = some (.string ((rd_T87 l0 x5_1).f0.f0)) ∧ w'.cell? ⟨(ad138.add ((x5_1).toNat * 8)).block, (ad138.add ((x5_1).toNat * 8)).off + 1, none⟩ = some (.slice A138_1 ((rd_T87 l0 x5_1).f0.f1).length c138_1) ∧ w'.cell? ⟨(ad138.add ((x5_1).toNat * 8)).block, (ad138.add ((x5_1).toNat * 8)).off + 2, none⟩ = some (.int .i64 ((rd_T87 l0 x5_1).f0.f2.f0)) ∧ w'.cell? ⟨(ad138.add ((x5_1).toNat * 8)).block, (ad138.add ((x5_1).toNat * 8)).off + 3, none⟩ = some (.slice A138_3 ((rd_T87 l0 x5_1).f0.f2.f1).length c138_3) ∧ w'.cell? ⟨(ad138.add ((x5_1).toNat * 8)).block, (ad138.add ((x5_1).toNat * 8)).off + 4, none⟩ = some (.string ((rd_T87 l0 x5_1).f0.f2.f2)) ∧ w'.cell? ⟨(ad138.add ((x5_1).toNat * 8)).block, (ad138.add ((x5_1).toNat * 8)).off + 5, none⟩ = some (.int .i64 ((rd_T87 l0 x5_1).f0.f3)) ∧ w'.cell? ⟨(ad138.add ((x5_1).toNat * 8)).block, (ad138.add ((x5_1).toNat * 8)).off + 6, none⟩ = some (.int .i64 ((rd_T87 l0 x5_1).f0.f4)) ∧ w'.cell? ⟨(ad138.add ((x5_1).toNat * 8)).block, (ad138.add ((x5_1).toNat * 8)).off + 7, none⟩ = some (.bool ((rd_T87 l0 x5_1).f1))) (ds := []) #[false, false, false, false, false, false, false, false, false] (by kernel_rfl) rfl rfl ⟨(Kit.hx HB.out hw138_0), (Kit.hx HB.out hw138_1), (Kit.hx HB.out hw138_2), (Kit.hx HB.out hw138_3), (Kit.hx HB.out hw138_4), (Kit.hx HB.out hw138_5), (Kit.hx HB.out hw138_6), (Kit.hx HB.out hw138_7)⟩ (fun hHeld => ?_); refine with_tabW laws_heldSlotS.tab4 laws_heldSlotS.bits4 (fun HT_ HW_ => ?_)
                        generalize wr.drew = w36 at HB HR138_1 HR138_3 hx138_0 hx138_1 hx138_2 hx138_3 hx138_4 hx138_5 hx138_6 hx138_7 hHeld ⊢
                        refine pure_ (i := 0) (N := some 12) (v := ?_) (a' := ?_) #[true, false, false, false, false, false, false, false, false] rfl rfl (any_of HT_.out (by kernel_rfl)) (fun _ _ _ h => h) (Or.inl ⟨by rfl, ?_⟩) ?_ ?_
                        rotate_left
                        · intro w'
                          go_simp
                          with_reducible rfl
                        rotate_left
                        · simp only [Act.put, List.setIfInBounds_toArray, List.set_cons_zero, List.set_cons_succ, i64_w, i32_w]
                          rfl
                        refine pure_ (i := 1) (N := some 13) (v := ?_) (a' := ?_) #[true, true, false, false, false, false, false, false, false] rfl rfl (any_of HT_.out (by kernel_rfl)) (fun _ _ _ h => h) (Or.inl ⟨by rfl, ?_⟩) ?_ ?_
                        rotate_left
                        · intro w'
                          go_simp
                          with_reducible rfl
                        rotate_left
                        · simp only [Act.put, List.setIfInBounds_toArray, List.set_cons_zero, List.set_cons_succ, i64_w, i32_w]
                          rfl
                        refine pure_ (i := 2) (N := some 14) (v := ?_) (a' := ?_) #[true, true, true, false, false, false, false, false, false] rfl rfl (any_of HT_.out (by kernel_rfl)) (fun _ _ _ h => h) (Or.inl ⟨by rfl, ?_⟩) ?_ ?_
                        rotate_left
                        · intro w'
                          go_simp
                          with_reducible rfl
                        rotate_left
                        · simp only [Act.put, List.setIfInBounds_toArray, List.set_cons_zero, List.set_cons_succ, i64_w, i32_w]
                          rfl
                        refine pure_ (i := 3) (N := some 15) (v := ?_) (a' := ?_) #[true, true, true, true, false, false, false, false, false] rfl rfl (any_of HT_.out (by kernel_rfl)) (fun _ _ _ h => h) (Or.inl ⟨by rfl, ?_⟩) ?_ ?_
                        rotate_left
                        · intro w'
                          go_simp
                          with_reducible rfl
                        rotate_left
                        · simp only [Act.put, List.setIfInBounds_toArray, List.set_cons_zero, List.set_cons_succ, i64_w, i32_w]
                          rfl
                        refine pure_ (i := 4) (N := some 16) (v := ?_) (a' := ?_) #[true, true, true, true, true, false, false, false, false] rfl rfl (any_of HT_.out (by kernel_rfl)) (fun _ _ _ h => h) (Or.inl ⟨by rfl, ?_⟩) ?_ ?_
                        rotate_left
                        · intro w'
                          go_simp
                          with_reducible rfl
                        rotate_left
                        · simp only [Act.put, List.setIfInBounds_toArray, List.set_cons_zero, List.set_cons_succ, i64_w, i32_w]
                          rfl
                        refine pure_ (i := 6) (N := some 18) (v := ?_) (a' := ?_) #[true, true, true, true, true, false, true, false, false] rfl rfl (any_of HT_.out (by kernel_rfl)) (fun _ _ _ h => h) (Or.inl ⟨by rfl, ?_⟩) ?_ ?_
                        rotate_left
                        · intro w'
                          go_simp
                          with_reducible rfl
                        rotate_left
                        · simp only [Act.put, List.setIfInBounds_toArray, List.set_cons_zero, List.set_cons_succ, i64_w, i32_w]
                          rfl
                        refine take_ (i := 5) (N := some 17) (v := ?_) (a' := ?_) #[true, true, true, true, true, true, true, false, false] rfl rfl (take_ofW HT_.out HW_.out (by kernel_rfl)) (fun _ _ _ h => h) (Or.inl ⟨by rfl, ?_⟩) hHeld ?_ ?_
                        rotate_left
                        · rintro w' ⟨s0, s1, s2, s3, s4, s5, s6, s7⟩
                          go_simp
                          with_reducible rfl
                        rotate_left
                        · simp only [Act.put, List.setIfInBounds_toArray, List.set_cons_zero, List.set_cons_succ, i64_w, i32_w]
                          rfl
                        refine one_ (i := 7) (N := some 19) #[true, true, true, true, true, true, true, true, false] rfl rfl (one_of HT_.out (by kernel_rfl)) (by decide) (fun K hK => ?_)
                        refine goes_ Try.func78 (by kernel_rfl) rfl #[.int .i64 x1_1] (by rfl) rfl rfl Kit.am ?_
                        with_reducible refine (laws_markText.calls k1 x1_1 t139 _ A5.out).mono ?_
                        rintro e w37 ⟨rfl, hb⟩
                        refine ⟨_, rfl, ?_⟩
                        replace HB := Kit.hB hb
                        (try clear hb)
                        (try clear hb2)
                        (try clear hk)
                        (try clear hi)
                        refine hK.out _ _ ⟨(Kit.hx HB.out hw138_0), (Kit.hx HB.out hw138_1), (Kit.hx HB.out hw138_2), (Kit.hx HB.out hw138_3), (Kit.hx HB.out hw138_4), (Kit.hx HB.out hw138_5), (Kit.hx HB.out hw138_6), (Kit.hx HB.out hw138_7)⟩ (fun hHeld => ?_)
                        clear hK K
                        refine norm_ (a' := ?_) ?_ ?_
                        rotate_left
                        · show Act.put _ (some 19) _ = _
                          simp only [Act.put, List.setIfInBounds_toArray, List.set_cons_zero, List.set_cons_succ, i64_w, i32_w]
                          rfl
                        refine pure_ (i := 8) (N := some 20) (v := ?_) (a' := ?_) #[true, true, true, true, true, true, true, true, true] rfl rfl (any_of HT_.out (by kernel_rfl)) (fun _ _ _ h => h) (Or.inl ⟨by rfl, ?_⟩) ?_ ?_
                        rotate_left
                        · intro w'
                          go_simp
                          with_reducible rfl
                        rotate_left
                        · simp only [Act.put, List.setIfInBounds_toArray, List.set_cons_zero, List.set_cons_succ, i64_w, i32_w]
                          rfl
                        refine done_ (done_of HT_.out (by kernel_rfl)) ?_
                        have p140 : 0 ≤ (x5_1 : Int) := of_decide_eq_true Kit.asm
                        have q140 : x5_1 < (l0.length : Int) := of_decide_eq_true Kit.asm
                        obtain ⟨ad140, A140_1, c140_1, A140_3, c140_3, e140, hx140_0, hx140_1, hx140_2, hx140_3, hx140_4, hx140_5, hx140_6, hx140_7, hl140_1, hi140_1, hl140_3, hi140_3⟩ := at_T87 HR0.out x5_1 p140 q140
                        have hk140_1 := Aside0.mk hx140_1
                        have hk140_3 := Aside0.mk hx140_3
                        obtain rfl : ad138 = ad140 := (by injection e140)
                        try (have e_ := hx140_1.symm.trans hk138_1.out; injection e_ with e_; injection e_ with e_1 e_2 e_3; subst e_1; subst e_3)
                        try (have e_ := hx140_3.symm.trans hk138_3.out; injection e_ with e_; injection e_ with e_1 e_2 e_3; subst e_1; subst e_3)
                        replace hx140_0 := Kit.hx HB.out hx140_0
                        replace hx140_1 := Kit.hx HB.out hx140_1
                        replace hx140_2 := Kit.hx HB.out hx140_2
                        replace hx140_3 := Kit.hx HB.out hx140_3
                        replace hx140_4 := Kit.hx HB.out hx140_4
                        replace hx140_5 := Kit.hx HB.out hx140_5
                        replace hx140_6 := Kit.hx HB.out hx140_6
                        replace hx140_7 := Kit.hx HB.out hx140_7
                        have HR140_1 := Aside0.mk hi140_1
                        have HC140_1 := Aside0.mk hl140_1
                        clear hi140_1 hl140_1
                        have HR140_3 := Aside0.mk hi140_3
                        have HC140_3 := Aside0.mk hl140_3
                        clear hi140_3 hl140_3
                        replace p140 := eq_true p140
                        replace q140 := eq_true q140
                        try go_wp2_with (first | ((with_reducible refine gate_callee (f := 53) rfl ?_); refine goesL_ (some 30) rfl rfl Try.func53 (by kernel_rfl) rfl #[.slice A140_1 ((rd_T87 l0 x5_1).f0.f1).length c140_1, .int .i64 (wrap64 (x1_1 + 1))] rfl Kit.am ?_; (with_reducible refine (laws_heldFieldS.calls k1 _ _ ((rd_T87 l0 x5_1).f0.f1) (wrap64 (x1_1 + 1)) t141 _ ?side1 ?side2 A7.out).mono ?_); (case side1 => exact Kit.cr HR140_1.out HB.out); (case side2 => exact HC140_1.out); rintro e w38 ⟨rfl, hb⟩; refine ⟨_, rfl, ?_⟩; replace HB := Kit.hB hb; (try clear hb); (try clear hb2); (try clear hk); (try clear hi); have p142 : 0 ≤ (x5_1 : Int) := of_decide_eq_true Kit.asm; have q142 : x5_1 < (l0.length : Int) := of_decide_eq_true Kit.asm; obtain ⟨ad142, A142_1, c142_1, A142_3, c142_3, e142, hx142_0, hx142_1, hx142_2, hx142_3, hx142_4, hx142_5, hx142_6, hx142_7, hl142_1, hi142_1, hl142_3, hi142_3⟩ := at_T87 HR0.out x5_1 p142 q142; obtain rfl : ad138 = ad142 := (by injection e142); replace hx142_0 := Kit.hx HB.out hx142_0; replace hx142_1 := Kit.hx HB.out hx142_1; replace hx142_2 := Kit.hx HB.out hx142_2; replace hx142_3 := Kit.hx HB.out hx142_3; replace hx142_4 := Kit.hx HB.out hx142_4; replace hx142_5 := Kit.hx HB.out hx142_5; replace hx142_6 := Kit.hx HB.out hx142_6; replace hx142_7 := Kit.hx HB.out hx142_7; have HR142_1 := Aside0.mk hi142_1; have HC142_1 := Aside0.mk hl142_1; clear hi142_1 hl142_1; have HR142_3 := Aside0.mk hi142_3; have HC142_3 := Aside0.mk hl142_3; clear hi142_3 hl142_3; replace p142 := eq_true p142; replace q142 := eq_true q142; have p143 : 0 ≤ (x5_1 : Int) := of_decide_eq_true Kit.asm; have q143 : x5_1 < (l0.length : Int) := of_decide_eq_true Kit.asm; obtain ⟨ad143, A143_1, c143_1, A143_3, c143_3, e143, hx143_0, hx143_1, hx143_2, hx143_3, hx143_4, hx143_5, hx143_6, hx143_7, hl143_1, hi143_1, hl143_3, hi143_3⟩ := at_T87 HR0.out x5_1 p143 q143; obtain rfl : ad138 = ad143 := (by injection e143); replace hx143_0 := Kit.hx HB.out hx143_0; replace hx143_1 := Kit.hx HB.out hx143_1; replace hx143_2 := Kit.hx HB.out hx143_2; replace hx143_3 := Kit.hx HB.out hx143_3; replace hx143_4 := Kit.hx HB.out hx143_4; replace hx143_5 := Kit.hx HB.out hx143_5; replace hx143_6 := Kit.hx HB.out hx143_6; replace hx143_7 := Kit.hx HB.out hx143_7; have HR143_1 := Aside0.mk hi143_1; have HC143_1 := Aside0.mk hl143_1; clear hi143_1 hl143_1; have HR143_3 := Aside0.mk hi143_3; have HC143_3 := Aside0.mk hl143_3; clear hi143_3 hl143_3; replace p143 := eq_true p143; replace q143 := eq_true q143; have ea_ := Option.some.inj (hx142_1.symm.trans hx143_1); injection ea_ with ea_ en_ ec_; subst ea_; subst ec_; clear en_; have ea_ := Option.some.inj (hx142_3.symm.trans hx143_3); injection ea_ with ea_ en_ ec_; subst ea_; subst ec_; clear en_) | ((with_reducible refine gate_callee (f := 53) rfl ?_); refine goesL_ (some 52) rfl rfl Try.func53 (by kernel_rfl) rfl #[.slice A142_3 ((rd_T87 l0 x5_1).f0.f2.f1).length c142_3, .int .i64 (wrap64 (t141 + 1))] rfl Kit.am ?_; (with_reducible refine (laws_heldFieldS.calls k1 _ _ ((rd_T87 l0 x5_1).f0.f2.f1) (wrap64 (t141 + 1)) t144 _ ?side1 ?side2 A13.out).mono ?_); (case side1 => exact Kit.cr HR143_3.out HB.out); (case side2 => exact HC143_3.out); rintro e w39 ⟨rfl, hb⟩; refine ⟨_, rfl, ?_⟩; replace HB := Kit.hB hb; (try clear hb); (try clear hb2); (try clear hk); (try clear hi)))
                        replace HB := Aside0.mk (below_drew1 HB.out)
                        have p145 : 0 ≤ (x5_1 : Int) := of_decide_eq_true Kit.asm
                        have q145 : x5_1 < (l0.length : Int) := of_decide_eq_true Kit.asm
                        obtain ⟨ad145, A145_1, c145_1, A145_3, c145_3, e145, hx145_0, hx145_1, hx145_2, hx145_3, hx145_4, hx145_5, hx145_6, hx145_7, hl145_1, hi145_1, hl145_3, hi145_3⟩ := at_T87 HR0.out x5_1 p145 q145
                        have hk145_1 := Aside0.mk hx145_1
                        have hk145_3 := Aside0.mk hx145_3
                        have hw145_7 := hx145_7
                        have hw145_6 := hx145_6
                        have hw145_5 := hx145_5
                        have hw145_4 := hx145_4
                        have hw145_3 := hx145_3
                        have hw145_2 := hx145_2
                        have hw145_1 := hx145_1
                        have hw145_0 := hx145_0
                        obtain rfl : ad138 = ad145 := (by injection e145)
                        replace hx145_0 := Kit.hx HB.out hx145_0
                        replace hx145_1 := Kit.hx HB.out hx145_1
                        replace hx145_2 := Kit.hx HB.out hx145_2
                        replace hx145_3 := Kit.hx HB.out hx145_3
                        replace hx145_4 := Kit.hx HB.out hx145_4
                        replace hx145_5 := Kit.hx HB.out hx145_5
                        replace hx145_6 := Kit.hx HB.out hx145_6
                        replace hx145_7 := Kit.hx HB.out hx145_7
                        have HR145_1 := Aside0.mk hi145_1
                        have HC145_1 := Aside0.mk hl145_1
                        clear hi145_1 hl145_1
                        have HR145_3 := Aside0.mk hi145_3
                        have HC145_3 := Aside0.mk hl145_3
                        clear hi145_3 hl145_3
                        replace p145 := eq_true p145
                        replace q145 := eq_true q145
                        refine start_ (n := 10) (S := fun w' => w'.cell? (ad138.add ((x5_1).toNat * 8)) = some (.string ((rd_T87 l0 x5_1).f0.f0)) ∧ w'.cell? ⟨(ad138.add ((x5_1).toNat * 8)).block, (ad138.add ((x5_1).toNat * 8)).off + 1, none⟩ = some (.slice A145_1 ((rd_T87 l0 x5_1).f0.f1).length c145_1) ∧ w'.cell? ⟨(ad138.add ((x5_1).toNat * 8)).block, (ad138.add ((x5_1).toNat * 8)).off + 2, none⟩ = some (.int .i64 ((rd_T87 l0 x5_1).f0.f2.f0)) ∧ w'.cell? ⟨(ad138.add ((x5_1).toNat * 8)).block, (ad138.add ((x5_1).toNat * 8)).off + 3, none⟩ = some (.slice A145_3 ((rd_T87 l0 x5_1).f0.f2.f1).length c145_3) ∧ w'.cell? ⟨(ad138.add ((x5_1).toNat * 8)).block, (ad138.add ((x5_1).toNat * 8)).off + 4, none⟩ = some (.string ((rd_T87 l0 x5_1).f0.f2.f2)) ∧ w'.cell? ⟨(ad138.add ((x5_1).toNat * 8)).block, (ad138.add ((x5_1).toNat * 8)).off + 5, none⟩ = some (.int .i64 ((rd_T87 l0 x5_1).f0.f3)) ∧ w'.cell? ⟨(ad138.add ((x5_1).toNat * 8)).block, (ad138.add ((x5_1).toNat * 8)).off + 6, none⟩ = some (.int .i64 ((rd_T87 l0 x5_1).f0.f4)) ∧ w'.cell? ⟨(ad138.add ((x5_1).toNat * 8)).block, (ad138.add ((x5_1).toNat * 8)).off + 7, none⟩ = some (.bool ((rd_T87 l0 x5_1).f1))) (ds := []) #[false, false, false, false, false, false, false, false, false, false] (by kernel_rfl) rfl rfl ⟨(Kit.hx HB.out hw145_0), (Kit.hx HB.out hw145_1), (Kit.hx HB.out hw145_2), (Kit.hx HB.out hw145_3), (Kit.hx HB.out hw145_4), (Kit.hx HB.out hw145_5), (Kit.hx HB.out hw145_6), (Kit.hx HB.out hw145_7)⟩ (fun hHeld => ?_); refine with_tabW laws_heldSlotS.tab16 laws_heldSlotS.bits16 (fun HT_ HW_ => ?_)
                        generalize w39.drew = w40 at HB HR145_1 HR145_3 hx145_0 hx145_1 hx145_2 hx145_3 hx145_4 hx145_5 hx145_6 hx145_7 hHeld ⊢
                        refine pure_ (i := 0) (N := some 55) (v := ?_) (a' := ?_) #[true, false, false, false, false, false, false, false, false, false] rfl rfl (any_of HT_.out (by kernel_rfl)) (fun _ _ _ h => h) (Or.inl ⟨by rfl, ?_⟩) ?_ ?_
                        rotate_left
                        · intro w'
                          go_simp
                          with_reducible rfl
                        rotate_left
                        · simp only [Act.put, List.setIfInBounds_toArray, List.set_cons_zero, List.set_cons_succ, i64_w, i32_w]
                          rfl
                        refine pure_ (i := 1) (N := some 56) (v := ?_) (a' := ?_) #[true, true, false, false, false, false, false, false, false, false] rfl rfl (any_of HT_.out (by kernel_rfl)) (fun _ _ _ h => h) (Or.inl ⟨by rfl, ?_⟩) ?_ ?_
                        rotate_left
                        · intro w'
                          go_simp
                          with_reducible rfl
                        rotate_left
                        · simp only [Act.put, List.setIfInBounds_toArray, List.set_cons_zero, List.set_cons_succ, i64_w, i32_w]
                          rfl
                        refine pure_ (i := 2) (N := some 57) (v := ?_) (a' := ?_) #[true, true, true, false, false, false, false, false, false, false] rfl rfl (any_of HT_.out (by kernel_rfl)) (fun _ _ _ h => h) (Or.inl ⟨by rfl, ?_⟩) ?_ ?_
                        rotate_left
                        · intro w'
                          go_simp
                          with_reducible rfl
                        rotate_left
                        · simp only [Act.put, List.setIfInBounds_toArray, List.set_cons_zero, List.set_cons_succ, i64_w, i32_w]
                          rfl
                        refine pure_ (i := 3) (N := some 58) (v := ?_) (a' := ?_) #[true, true, true, true, false, false, false, false, false, false] rfl rfl (any_of HT_.out (by kernel_rfl)) (fun _ _ _ h => h) (Or.inl ⟨by rfl, ?_⟩) ?_ ?_
                        rotate_left
                        · intro w'
                          go_simp
                          with_reducible rfl
                        rotate_left
                        · simp only [Act.put, List.setIfInBounds_toArray, List.set_cons_zero, List.set_cons_succ, i64_w, i32_w]
                          rfl
                        refine pure_ (i := 4) (N := some 59) (v := ?_) (a' := ?_) #[true, true, true, true, true, false, false, false, false, false] rfl rfl (any_of HT_.out (by kernel_rfl)) (fun _ _ _ h => h) (Or.inl ⟨by rfl, ?_⟩) ?_ ?_
                        rotate_left
                        · intro w'
                          go_simp
                          with_reducible rfl
                        rotate_left
                        · simp only [Act.put, List.setIfInBounds_toArray, List.set_cons_zero, List.set_cons_succ, i64_w, i32_w]
                          rfl
                        refine pure_ (i := 5) (N := some 60) (v := ?_) (a' := ?_) #[true, true, true, true, true, true, false, false, false, false] rfl rfl (any_of HT_.out (by kernel_rfl)) (fun _ _ _ h => h) (Or.inl ⟨by rfl, ?_⟩) ?_ ?_
                        rotate_left
                        · intro w'
                          go_simp
                          with_reducible rfl
                        rotate_left
                        · simp only [Act.put, List.setIfInBounds_toArray, List.set_cons_zero, List.set_cons_succ, i64_w, i32_w]
                          rfl
                        refine pure_ (i := 7) (N := some 62) (v := ?_) (a' := ?_) #[true, true, true, true, true, true, false, true, false, false] rfl rfl (any_of HT_.out (by kernel_rfl)) (fun _ _ _ h => h) (Or.inl ⟨by rfl, ?_⟩) ?_ ?_
                        rotate_left
                        · intro w'
                          go_simp
                          with_reducible rfl
                        rotate_left
                        · simp only [Act.put, List.setIfInBounds_toArray, List.set_cons_zero, List.set_cons_succ, i64_w, i32_w]
                          rfl
                        refine take_ (i := 6) (N := some 61) (v := ?_) (a' := ?_) #[true, true, true, true, true, true, true, true, false, false] rfl rfl (take_ofW HT_.out HW_.out (by kernel_rfl)) (fun _ _ _ h => h) (Or.inl ⟨by rfl, ?_⟩) hHeld ?_ ?_
                        rotate_left
                        · rintro w' ⟨s0, s1, s2, s3, s4, s5, s6, s7⟩
                          go_simp
                          with_reducible rfl
                        rotate_left
                        · simp only [Act.put, List.setIfInBounds_toArray, List.set_cons_zero, List.set_cons_succ, i64_w, i32_w]
                          rfl
                        refine one_ (i := 8) (N := some 63) #[true, true, true, true, true, true, true, true, true, false] rfl rfl (one_of HT_.out (by kernel_rfl)) (by decide) (fun K hK => ?_)
                        refine goes_ Try.func78 (by kernel_rfl) rfl #[.int .i64 t144] (by rfl) rfl rfl Kit.am ?_
                        with_reducible refine (laws_markText.calls k1 t144 t146 _ A19.out).mono ?_
                        rintro e w41 ⟨rfl, hb⟩
                        refine ⟨_, rfl, ?_⟩
                        replace HB := Kit.hB hb
                        (try clear hb)
                        (try clear hb2)
                        (try clear hk)
                        (try clear hi)
                        refine hK.out _ _ ⟨(Kit.hx HB.out hw145_0), (Kit.hx HB.out hw145_1), (Kit.hx HB.out hw145_2), (Kit.hx HB.out hw145_3), (Kit.hx HB.out hw145_4), (Kit.hx HB.out hw145_5), (Kit.hx HB.out hw145_6), (Kit.hx HB.out hw145_7)⟩ (fun hHeld => ?_)
                        clear hK K
                        refine norm_ (a' := ?_) ?_ ?_
                        rotate_left
                        · show Act.put _ (some 63) _ = _
                          simp only [Act.put, List.setIfInBounds_toArray, List.set_cons_zero, List.set_cons_succ, i64_w, i32_w]
                          rfl
                        refine pure_ (i := 9) (N := some 64) (v := ?_) (a' := ?_) #[true, true, true, true, true, true, true, true, true, true] rfl rfl (any_of HT_.out (by kernel_rfl)) (fun _ _ _ h => h) (Or.inl ⟨by rfl, ?_⟩) ?_ ?_
                        rotate_left
                        · intro w'
                          go_simp
                          with_reducible rfl
                        rotate_left
                        · simp only [Act.put, List.setIfInBounds_toArray, List.set_cons_zero, List.set_cons_succ, i64_w, i32_w]
                          rfl
                        refine done_ (done_of HT_.out (by kernel_rfl)) ?_
                        have p147 : 0 ≤ (x5_1 : Int) := of_decide_eq_true Kit.asm
                        have q147 : x5_1 < (l0.length : Int) := of_decide_eq_true Kit.asm
                        obtain ⟨ad147, A147_1, c147_1, A147_3, c147_3, e147, hx147_0, hx147_1, hx147_2, hx147_3, hx147_4, hx147_5, hx147_6, hx147_7, hl147_1, hi147_1, hl147_3, hi147_3⟩ := at_T87 HR0.out x5_1 p147 q147
                        have hk147_1 := Aside0.mk hx147_1
                        have hk147_3 := Aside0.mk hx147_3
                        obtain rfl : ad138 = ad147 := (by injection e147)
                        try (have e_ := hx147_1.symm.trans hk138_1.out; injection e_ with e_; injection e_ with e_1 e_2 e_3; subst e_1; subst e_3)
                        try (have e_ := hx147_3.symm.trans hk138_3.out; injection e_ with e_; injection e_ with e_1 e_2 e_3; subst e_1; subst e_3)
                        try (have e_ := hx147_1.symm.trans hk140_1.out; injection e_ with e_; injection e_ with e_1 e_2 e_3; subst e_1; subst e_3)
                        try (have e_ := hx147_3.symm.trans hk140_3.out; injection e_ with e_; injection e_ with e_1 e_2 e_3; subst e_1; subst e_3)
                        try (have e_ := hx147_1.symm.trans hk145_1.out; injection e_ with e_; injection e_ with e_1 e_2 e_3; subst e_1; subst e_3)
                        try (have e_ := hx147_3.symm.trans hk145_3.out; injection e_ with e_; injection e_ with e_1 e_2 e_3; subst e_1; subst e_3)
                        replace hx147_0 := Kit.hx HB.out hx147_0
                        replace hx147_1 := Kit.hx HB.out hx147_1
                        replace hx147_2 := Kit.hx HB.out hx147_2
                        replace hx147_3 := Kit.hx HB.out hx147_3
                        replace hx147_4 := Kit.hx HB.out hx147_4
                        replace hx147_5 := Kit.hx HB.out hx147_5
                        replace hx147_6 := Kit.hx HB.out hx147_6
                        replace hx147_7 := Kit.hx HB.out hx147_7
                        have HR147_1 := Aside0.mk hi147_1
                        have HC147_1 := Aside0.mk hl147_1
                        clear hi147_1 hl147_1
                        have HR147_3 := Aside0.mk hi147_3
                        have HC147_3 := Aside0.mk hl147_3
                        clear hi147_3 hl147_3
                        replace p147 := eq_true p147
                        replace q147 := eq_true q147
                        have p148 : 0 ≤ (x5_1 : Int) := of_decide_eq_true Kit.asm
                        have q148 : x5_1 < (l0.length : Int) := of_decide_eq_true Kit.asm
                        obtain ⟨ad148, A148_1, c148_1, A148_3, c148_3, e148, hx148_0, hx148_1, hx148_2, hx148_3, hx148_4, hx148_5, hx148_6, hx148_7, hl148_1, hi148_1, hl148_3, hi148_3⟩ := at_T87 HR0.out x5_1 p148 q148
                        have hk148_1 := Aside0.mk hx148_1
                        have hk148_3 := Aside0.mk hx148_3
                        obtain rfl : ad138 = ad148 := (by injection e148)
                        replace hx148_0 := Kit.hx HB.out hx148_0
                        replace hx148_1 := Kit.hx HB.out hx148_1
                        replace hx148_2 := Kit.hx HB.out hx148_2
                        replace hx148_3 := Kit.hx HB.out hx148_3
                        replace hx148_4 := Kit.hx HB.out hx148_4
                        replace hx148_5 := Kit.hx HB.out hx148_5
                        replace hx148_6 := Kit.hx HB.out hx148_6
                        replace hx148_7 := Kit.hx HB.out hx148_7
                        have HR148_1 := Aside0.mk hi148_1
                        have HC148_1 := Aside0.mk hl148_1
                        clear hi148_1 hl148_1
                        have HR148_3 := Aside0.mk hi148_3
                        have HC148_3 := Aside0.mk hl148_3
                        clear hi148_3 hl148_3
                        replace p148 := eq_true p148
                        replace q148 := eq_true q148
                        have ea_ := Option.some.inj (hx147_1.symm.trans hx148_1)
                        injection ea_ with ea_ en_ ec_
                        subst ea_
                        subst ec_
                        clear en_
                        have ea_ := Option.some.inj (hx147_3.symm.trans hx148_3)
                        injection ea_ with ea_ en_ ec_
                        subst ea_
                        subst ec_
                        clear en_
                        try go_wp2
                        go_ret
                        exact ⟨Kit.er, Kit.bl⟩
                    · rw [if_neg c21] at H
                      have c21b0 : (((rd_T87 l0 x5_1).f0.f3) == (wrap64 (t144 + 1))) = false := beq_eq_false_iff_ne.mpr c21
                      have c21b1 : (((rd_T87 l0 x5_1).f0.f3) != (wrap64 (t144 + 1))) = true := bne_iff_ne.mpr c21
                      obtain rfl := Option.some.inj H
                      try go_wp2
                      replace HB := Aside0.mk (below_drew1 HB.out)
                      have p138 : 0 ≤ (x5_1 : Int) := of_decide_eq_true Kit.asm
                      have q138 : x5_1 < (l0.length : Int) := of_decide_eq_true Kit.asm
                      obtain ⟨ad138, A138_1, c138_1, A138_3, c138_3, e138, hx138_0, hx138_1, hx138_2, hx138_3, hx138_4, hx138_5, hx138_6, hx138_7, hl138_1, hi138_1, hl138_3, hi138_3⟩ := at_T87 HR0.out x5_1 p138 q138
                      have hk138_1 := Aside0.mk hx138_1
                      have hk138_3 := Aside0.mk hx138_3
                      have hw138_7 := hx138_7
                      have hw138_6 := hx138_6
                      have hw138_5 := hx138_5
                      have hw138_4 := hx138_4
                      have hw138_3 := hx138_3
                      have hw138_2 := hx138_2
                      have hw138_1 := hx138_1
                      have hw138_0 := hx138_0
                      cases e138
                      replace hx138_0 := Kit.hx HB.out hx138_0
                      replace hx138_1 := Kit.hx HB.out hx138_1
                      replace hx138_2 := Kit.hx HB.out hx138_2
                      replace hx138_3 := Kit.hx HB.out hx138_3
                      replace hx138_4 := Kit.hx HB.out hx138_4
                      replace hx138_5 := Kit.hx HB.out hx138_5
                      replace hx138_6 := Kit.hx HB.out hx138_6
                      replace hx138_7 := Kit.hx HB.out hx138_7
                      have HR138_1 := Aside0.mk hi138_1
                      have HC138_1 := Aside0.mk hl138_1
                      clear hi138_1 hl138_1
                      have HR138_3 := Aside0.mk hi138_3
                      have HC138_3 := Aside0.mk hl138_3
                      clear hi138_3 hl138_3
                      replace p138 := eq_true p138
                      replace q138 := eq_true q138
                      refine start_ (n := 9) (S := fun w' => w'.cell? (ad138.add ((x5_1).toNat * 8)) = some (.string ((rd_T87 l0 x5_1).f0.f0)) ∧ w'.cell? ⟨(ad138.add ((x5_1).toNat * 8)).block, (ad138.add ((x5_1).toNat * 8)).off + 1, none⟩ = some (.slice A138_1 ((rd_T87 l0 x5_1).f0.f1).length c138_1) ∧ w'.cell? ⟨(ad138.add ((x5_1).toNat * 8)).block, (ad138.add ((x5_1).toNat * 8)).off + 2, none⟩ = some (.int .i64 ((rd_T87 l0 x5_1).f0.f2.f0)) ∧ w'.cell? ⟨(ad138.add ((x5_1).toNat * 8)).block, (ad138.add ((x5_1).toNat * 8)).off + 3, none⟩ = some (.slice A138_3 ((rd_T87 l0 x5_1).f0.f2.f1).length c138_3) ∧ w'.cell? ⟨(ad138.add ((x5_1).toNat * 8)).block, (ad138.add ((x5_1).toNat * 8)).off + 4, none⟩ = some (.string ((rd_T87 l0 x5_1).f0.f2.f2)) ∧ w'.cell? ⟨(ad138.add ((x5_1).toNat * 8)).block, (ad138.add ((x5_1).toNat * 8)).off + 5, none⟩ = some (.int .i64 ((rd_T87 l0 x5_1).f0.f3)) ∧ w'.cell? ⟨(ad138.add ((x5_1).toNat * 8)).block, (ad138.add ((x5_1).toNat * 8)).off + 6, none⟩ = some (.int .i64 ((rd_T87 l0 x5_1).f0.f4)) ∧ w'.cell? ⟨(ad138.add ((x5_1).toNat * 8)).block, (ad138.add ((x5_1).toNat * 8)).off + 7, none⟩ = some (.bool ((rd_T87 l0 x5_1).f1))) (ds := []) #[false, false, false, false, false, false, false, false, false] (by kernel_rfl) rfl rfl ⟨(Kit.hx HB.out hw138_0), (Kit.hx HB.out hw138_1), (Kit.hx HB.out hw138_2), (Kit.hx HB.out hw138_3), (Kit.hx HB.out hw138_4), (Kit.hx HB.out hw138_5), (Kit.hx HB.out hw138_6), (Kit.hx HB.out hw138_7)⟩ (fun hHeld => ?_); refine with_tabW laws_heldSlotS.tab4 laws_heldSlotS.bits4 (fun HT_ HW_ => ?_)
                      generalize wr.drew = w42 at HB HR138_1 HR138_3 hx138_0 hx138_1 hx138_2 hx138_3 hx138_4 hx138_5 hx138_6 hx138_7 hHeld ⊢
                      refine pure_ (i := 0) (N := some 12) (v := ?_) (a' := ?_) #[true, false, false, false, false, false, false, false, false] rfl rfl (any_of HT_.out (by kernel_rfl)) (fun _ _ _ h => h) (Or.inl ⟨by rfl, ?_⟩) ?_ ?_
                      rotate_left
                      · intro w'
                        go_simp
                        with_reducible rfl
                      rotate_left
                      · simp only [Act.put, List.setIfInBounds_toArray, List.set_cons_zero, List.set_cons_succ, i64_w, i32_w]
                        rfl
                      refine pure_ (i := 1) (N := some 13) (v := ?_) (a' := ?_) #[true, true, false, false, false, false, false, false, false] rfl rfl (any_of HT_.out (by kernel_rfl)) (fun _ _ _ h => h) (Or.inl ⟨by rfl, ?_⟩) ?_ ?_
                      rotate_left
                      · intro w'
                        go_simp
                        with_reducible rfl
                      rotate_left
                      · simp only [Act.put, List.setIfInBounds_toArray, List.set_cons_zero, List.set_cons_succ, i64_w, i32_w]
                        rfl
                      refine pure_ (i := 2) (N := some 14) (v := ?_) (a' := ?_) #[true, true, true, false, false, false, false, false, false] rfl rfl (any_of HT_.out (by kernel_rfl)) (fun _ _ _ h => h) (Or.inl ⟨by rfl, ?_⟩) ?_ ?_
                      rotate_left
                      · intro w'
                        go_simp
                        with_reducible rfl
                      rotate_left
                      · simp only [Act.put, List.setIfInBounds_toArray, List.set_cons_zero, List.set_cons_succ, i64_w, i32_w]
                        rfl
                      refine pure_ (i := 3) (N := some 15) (v := ?_) (a' := ?_) #[true, true, true, true, false, false, false, false, false] rfl rfl (any_of HT_.out (by kernel_rfl)) (fun _ _ _ h => h) (Or.inl ⟨by rfl, ?_⟩) ?_ ?_
                      rotate_left
                      · intro w'
                        go_simp
                        with_reducible rfl
                      rotate_left
                      · simp only [Act.put, List.setIfInBounds_toArray, List.set_cons_zero, List.set_cons_succ, i64_w, i32_w]
                        rfl
                      refine pure_ (i := 4) (N := some 16) (v := ?_) (a' := ?_) #[true, true, true, true, true, false, false, false, false] rfl rfl (any_of HT_.out (by kernel_rfl)) (fun _ _ _ h => h) (Or.inl ⟨by rfl, ?_⟩) ?_ ?_
                      rotate_left
                      · intro w'
                        go_simp
                        with_reducible rfl
                      rotate_left
                      · simp only [Act.put, List.setIfInBounds_toArray, List.set_cons_zero, List.set_cons_succ, i64_w, i32_w]
                        rfl
                      refine pure_ (i := 6) (N := some 18) (v := ?_) (a' := ?_) #[true, true, true, true, true, false, true, false, false] rfl rfl (any_of HT_.out (by kernel_rfl)) (fun _ _ _ h => h) (Or.inl ⟨by rfl, ?_⟩) ?_ ?_
                      rotate_left
                      · intro w'
                        go_simp
                        with_reducible rfl
                      rotate_left
                      · simp only [Act.put, List.setIfInBounds_toArray, List.set_cons_zero, List.set_cons_succ, i64_w, i32_w]
                        rfl
                      refine take_ (i := 5) (N := some 17) (v := ?_) (a' := ?_) #[true, true, true, true, true, true, true, false, false] rfl rfl (take_ofW HT_.out HW_.out (by kernel_rfl)) (fun _ _ _ h => h) (Or.inl ⟨by rfl, ?_⟩) hHeld ?_ ?_
                      rotate_left
                      · rintro w' ⟨s0, s1, s2, s3, s4, s5, s6, s7⟩
                        go_simp
                        with_reducible rfl
                      rotate_left
                      · simp only [Act.put, List.setIfInBounds_toArray, List.set_cons_zero, List.set_cons_succ, i64_w, i32_w]
                        rfl
                      refine one_ (i := 7) (N := some 19) #[true, true, true, true, true, true, true, true, false] rfl rfl (one_of HT_.out (by kernel_rfl)) (by decide) (fun K hK => ?_)
                      refine goes_ Try.func78 (by kernel_rfl) rfl #[.int .i64 x1_1] (by rfl) rfl rfl Kit.am ?_
                      with_reducible refine (laws_markText.calls k1 x1_1 t139 _ A5.out).mono ?_
                      rintro e w43 ⟨rfl, hb⟩
                      refine ⟨_, rfl, ?_⟩
                      replace HB := Kit.hB hb
                      (try clear hb)
                      (try clear hb2)
                      (try clear hk)
                      (try clear hi)
                      refine hK.out _ _ ⟨(Kit.hx HB.out hw138_0), (Kit.hx HB.out hw138_1), (Kit.hx HB.out hw138_2), (Kit.hx HB.out hw138_3), (Kit.hx HB.out hw138_4), (Kit.hx HB.out hw138_5), (Kit.hx HB.out hw138_6), (Kit.hx HB.out hw138_7)⟩ (fun hHeld => ?_)
                      clear hK K
                      refine norm_ (a' := ?_) ?_ ?_
                      rotate_left
                      · show Act.put _ (some 19) _ = _
                        simp only [Act.put, List.setIfInBounds_toArray, List.set_cons_zero, List.set_cons_succ, i64_w, i32_w]
                        rfl
                      refine pure_ (i := 8) (N := some 20) (v := ?_) (a' := ?_) #[true, true, true, true, true, true, true, true, true] rfl rfl (any_of HT_.out (by kernel_rfl)) (fun _ _ _ h => h) (Or.inl ⟨by rfl, ?_⟩) ?_ ?_
                      rotate_left
                      · intro w'
                        go_simp
                        with_reducible rfl
                      rotate_left
                      · simp only [Act.put, List.setIfInBounds_toArray, List.set_cons_zero, List.set_cons_succ, i64_w, i32_w]
                        rfl
                      refine done_ (done_of HT_.out (by kernel_rfl)) ?_
                      have p140 : 0 ≤ (x5_1 : Int) := of_decide_eq_true Kit.asm
                      have q140 : x5_1 < (l0.length : Int) := of_decide_eq_true Kit.asm
                      obtain ⟨ad140, A140_1, c140_1, A140_3, c140_3, e140, hx140_0, hx140_1, hx140_2, hx140_3, hx140_4, hx140_5, hx140_6, hx140_7, hl140_1, hi140_1, hl140_3, hi140_3⟩ := at_T87 HR0.out x5_1 p140 q140
                      have hk140_1 := Aside0.mk hx140_1
                      have hk140_3 := Aside0.mk hx140_3
                      obtain rfl : ad138 = ad140 := (by injection e140)
                      try (have e_ := hx140_1.symm.trans hk138_1.out; injection e_ with e_; injection e_ with e_1 e_2 e_3; subst e_1; subst e_3)
                      try (have e_ := hx140_3.symm.trans hk138_3.out; injection e_ with e_; injection e_ with e_1 e_2 e_3; subst e_1; subst e_3)
                      replace hx140_0 := Kit.hx HB.out hx140_0
                      replace hx140_1 := Kit.hx HB.out hx140_1
                      replace hx140_2 := Kit.hx HB.out hx140_2
                      replace hx140_3 := Kit.hx HB.out hx140_3
                      replace hx140_4 := Kit.hx HB.out hx140_4
                      replace hx140_5 := Kit.hx HB.out hx140_5
                      replace hx140_6 := Kit.hx HB.out hx140_6
                      replace hx140_7 := Kit.hx HB.out hx140_7
                      have HR140_1 := Aside0.mk hi140_1
                      have HC140_1 := Aside0.mk hl140_1
                      clear hi140_1 hl140_1
                      have HR140_3 := Aside0.mk hi140_3
                      have HC140_3 := Aside0.mk hl140_3
                      clear hi140_3 hl140_3
                      replace p140 := eq_true p140
                      replace q140 := eq_true q140
                      try go_wp2_with (first | ((with_reducible refine gate_callee (f := 53) rfl ?_); refine goesL_ (some 30) rfl rfl Try.func53 (by kernel_rfl) rfl #[.slice A140_1 ((rd_T87 l0 x5_1).f0.f1).length c140_1, .int .i64 (wrap64 (x1_1 + 1))] rfl Kit.am ?_; (with_reducible refine (laws_heldFieldS.calls k1 _ _ ((rd_T87 l0 x5_1).f0.f1) (wrap64 (x1_1 + 1)) t141 _ ?side1 ?side2 A7.out).mono ?_); (case side1 => exact Kit.cr HR140_1.out HB.out); (case side2 => exact HC140_1.out); rintro e w44 ⟨rfl, hb⟩; refine ⟨_, rfl, ?_⟩; replace HB := Kit.hB hb; (try clear hb); (try clear hb2); (try clear hk); (try clear hi); have p142 : 0 ≤ (x5_1 : Int) := of_decide_eq_true Kit.asm; have q142 : x5_1 < (l0.length : Int) := of_decide_eq_true Kit.asm; obtain ⟨ad142, A142_1, c142_1, A142_3, c142_3, e142, hx142_0, hx142_1, hx142_2, hx142_3, hx142_4, hx142_5, hx142_6, hx142_7, hl142_1, hi142_1, hl142_3, hi142_3⟩ := at_T87 HR0.out x5_1 p142 q142; obtain rfl : ad138 = ad142 := (by injection e142); replace hx142_0 := Kit.hx HB.out hx142_0; replace hx142_1 := Kit.hx HB.out hx142_1; replace hx142_2 := Kit.hx HB.out hx142_2; replace hx142_3 := Kit.hx HB.out hx142_3; replace hx142_4 := Kit.hx HB.out hx142_4; replace hx142_5 := Kit.hx HB.out hx142_5; replace hx142_6 := Kit.hx HB.out hx142_6; replace hx142_7 := Kit.hx HB.out hx142_7; have HR142_1 := Aside0.mk hi142_1; have HC142_1 := Aside0.mk hl142_1; clear hi142_1 hl142_1; have HR142_3 := Aside0.mk hi142_3; have HC142_3 := Aside0.mk hl142_3; clear hi142_3 hl142_3; replace p142 := eq_true p142; replace q142 := eq_true q142; have p143 : 0 ≤ (x5_1 : Int) := of_decide_eq_true Kit.asm; have q143 : x5_1 < (l0.length : Int) := of_decide_eq_true Kit.asm; obtain ⟨ad143, A143_1, c143_1, A143_3, c143_3, e143, hx143_0, hx143_1, hx143_2, hx143_3, hx143_4, hx143_5, hx143_6, hx143_7, hl143_1, hi143_1, hl143_3, hi143_3⟩ := at_T87 HR0.out x5_1 p143 q143; obtain rfl : ad138 = ad143 := (by injection e143); replace hx143_0 := Kit.hx HB.out hx143_0; replace hx143_1 := Kit.hx HB.out hx143_1; replace hx143_2 := Kit.hx HB.out hx143_2; replace hx143_3 := Kit.hx HB.out hx143_3; replace hx143_4 := Kit.hx HB.out hx143_4; replace hx143_5 := Kit.hx HB.out hx143_5; replace hx143_6 := Kit.hx HB.out hx143_6; replace hx143_7 := Kit.hx HB.out hx143_7; have HR143_1 := Aside0.mk hi143_1; have HC143_1 := Aside0.mk hl143_1; clear hi143_1 hl143_1; have HR143_3 := Aside0.mk hi143_3; have HC143_3 := Aside0.mk hl143_3; clear hi143_3 hl143_3; replace p143 := eq_true p143; replace q143 := eq_true q143; have ea_ := Option.some.inj (hx142_1.symm.trans hx143_1); injection ea_ with ea_ en_ ec_; subst ea_; subst ec_; clear en_; have ea_ := Option.some.inj (hx142_3.symm.trans hx143_3); injection ea_ with ea_ en_ ec_; subst ea_; subst ec_; clear en_) | ((with_reducible refine gate_callee (f := 53) rfl ?_); refine goesL_ (some 52) rfl rfl Try.func53 (by kernel_rfl) rfl #[.slice A142_3 ((rd_T87 l0 x5_1).f0.f2.f1).length c142_3, .int .i64 (wrap64 (t141 + 1))] rfl Kit.am ?_; (with_reducible refine (laws_heldFieldS.calls k1 _ _ ((rd_T87 l0 x5_1).f0.f2.f1) (wrap64 (t141 + 1)) t144 _ ?side1 ?side2 A13.out).mono ?_); (case side1 => exact Kit.cr HR143_3.out HB.out); (case side2 => exact HC143_3.out); rintro e w45 ⟨rfl, hb⟩; refine ⟨_, rfl, ?_⟩; replace HB := Kit.hB hb; (try clear hb); (try clear hb2); (try clear hk); (try clear hi)))
                      replace HB := Aside0.mk (below_drew1 HB.out)
                      have p145 : 0 ≤ (x5_1 : Int) := of_decide_eq_true Kit.asm
                      have q145 : x5_1 < (l0.length : Int) := of_decide_eq_true Kit.asm
                      obtain ⟨ad145, A145_1, c145_1, A145_3, c145_3, e145, hx145_0, hx145_1, hx145_2, hx145_3, hx145_4, hx145_5, hx145_6, hx145_7, hl145_1, hi145_1, hl145_3, hi145_3⟩ := at_T87 HR0.out x5_1 p145 q145
                      have hk145_1 := Aside0.mk hx145_1
                      have hk145_3 := Aside0.mk hx145_3
                      have hw145_7 := hx145_7
                      have hw145_6 := hx145_6
                      have hw145_5 := hx145_5
                      have hw145_4 := hx145_4
                      have hw145_3 := hx145_3
                      have hw145_2 := hx145_2
                      have hw145_1 := hx145_1
                      have hw145_0 := hx145_0
                      obtain rfl : ad138 = ad145 := (by injection e145)
                      replace hx145_0 := Kit.hx HB.out hx145_0
                      replace hx145_1 := Kit.hx HB.out hx145_1
                      replace hx145_2 := Kit.hx HB.out hx145_2
                      replace hx145_3 := Kit.hx HB.out hx145_3
                      replace hx145_4 := Kit.hx HB.out hx145_4
                      replace hx145_5 := Kit.hx HB.out hx145_5
                      replace hx145_6 := Kit.hx HB.out hx145_6
                      replace hx145_7 := Kit.hx HB.out hx145_7
                      have HR145_1 := Aside0.mk hi145_1
                      have HC145_1 := Aside0.mk hl145_1
                      clear hi145_1 hl145_1
                      have HR145_3 := Aside0.mk hi145_3
                      have HC145_3 := Aside0.mk hl145_3
                      clear hi145_3 hl145_3
                      replace p145 := eq_true p145
                      replace q145 := eq_true q145
                      refine start_ (n := 10) (S := fun w' => w'.cell? (ad138.add ((x5_1).toNat * 8)) = some (.string ((rd_T87 l0 x5_1).f0.f0)) ∧ w'.cell? ⟨(ad138.add ((x5_1).toNat * 8)).block, (ad138.add ((x5_1).toNat * 8)).off + 1, none⟩ = some (.slice A145_1 ((rd_T87 l0 x5_1).f0.f1).length c145_1) ∧ w'.cell? ⟨(ad138.add ((x5_1).toNat * 8)).block, (ad138.add ((x5_1).toNat * 8)).off + 2, none⟩ = some (.int .i64 ((rd_T87 l0 x5_1).f0.f2.f0)) ∧ w'.cell? ⟨(ad138.add ((x5_1).toNat * 8)).block, (ad138.add ((x5_1).toNat * 8)).off + 3, none⟩ = some (.slice A145_3 ((rd_T87 l0 x5_1).f0.f2.f1).length c145_3) ∧ w'.cell? ⟨(ad138.add ((x5_1).toNat * 8)).block, (ad138.add ((x5_1).toNat * 8)).off + 4, none⟩ = some (.string ((rd_T87 l0 x5_1).f0.f2.f2)) ∧ w'.cell? ⟨(ad138.add ((x5_1).toNat * 8)).block, (ad138.add ((x5_1).toNat * 8)).off + 5, none⟩ = some (.int .i64 ((rd_T87 l0 x5_1).f0.f3)) ∧ w'.cell? ⟨(ad138.add ((x5_1).toNat * 8)).block, (ad138.add ((x5_1).toNat * 8)).off + 6, none⟩ = some (.int .i64 ((rd_T87 l0 x5_1).f0.f4)) ∧ w'.cell? ⟨(ad138.add ((x5_1).toNat * 8)).block, (ad138.add ((x5_1).toNat * 8)).off + 7, none⟩ = some (.bool ((rd_T87 l0 x5_1).f1))) (ds := []) #[false, false, false, false, false, false, false, false, false, false] (by kernel_rfl) rfl rfl ⟨(Kit.hx HB.out hw145_0), (Kit.hx HB.out hw145_1), (Kit.hx HB.out hw145_2), (Kit.hx HB.out hw145_3), (Kit.hx HB.out hw145_4), (Kit.hx HB.out hw145_5), (Kit.hx HB.out hw145_6), (Kit.hx HB.out hw145_7)⟩ (fun hHeld => ?_); refine with_tabW laws_heldSlotS.tab16 laws_heldSlotS.bits16 (fun HT_ HW_ => ?_)
                      generalize w45.drew = w46 at HB HR145_1 HR145_3 hx145_0 hx145_1 hx145_2 hx145_3 hx145_4 hx145_5 hx145_6 hx145_7 hHeld ⊢
                      refine pure_ (i := 0) (N := some 55) (v := ?_) (a' := ?_) #[true, false, false, false, false, false, false, false, false, false] rfl rfl (any_of HT_.out (by kernel_rfl)) (fun _ _ _ h => h) (Or.inl ⟨by rfl, ?_⟩) ?_ ?_
                      rotate_left
                      · intro w'
                        go_simp
                        with_reducible rfl
                      rotate_left
                      · simp only [Act.put, List.setIfInBounds_toArray, List.set_cons_zero, List.set_cons_succ, i64_w, i32_w]
                        rfl
                      refine pure_ (i := 1) (N := some 56) (v := ?_) (a' := ?_) #[true, true, false, false, false, false, false, false, false, false] rfl rfl (any_of HT_.out (by kernel_rfl)) (fun _ _ _ h => h) (Or.inl ⟨by rfl, ?_⟩) ?_ ?_
                      rotate_left
                      · intro w'
                        go_simp
                        with_reducible rfl
                      rotate_left
                      · simp only [Act.put, List.setIfInBounds_toArray, List.set_cons_zero, List.set_cons_succ, i64_w, i32_w]
                        rfl
                      refine pure_ (i := 2) (N := some 57) (v := ?_) (a' := ?_) #[true, true, true, false, false, false, false, false, false, false] rfl rfl (any_of HT_.out (by kernel_rfl)) (fun _ _ _ h => h) (Or.inl ⟨by rfl, ?_⟩) ?_ ?_
                      rotate_left
                      · intro w'
                        go_simp
                        with_reducible rfl
                      rotate_left
                      · simp only [Act.put, List.setIfInBounds_toArray, List.set_cons_zero, List.set_cons_succ, i64_w, i32_w]
                        rfl
                      refine pure_ (i := 3) (N := some 58) (v := ?_) (a' := ?_) #[true, true, true, true, false, false, false, false, false, false] rfl rfl (any_of HT_.out (by kernel_rfl)) (fun _ _ _ h => h) (Or.inl ⟨by rfl, ?_⟩) ?_ ?_
                      rotate_left
                      · intro w'
                        go_simp
                        with_reducible rfl
                      rotate_left
                      · simp only [Act.put, List.setIfInBounds_toArray, List.set_cons_zero, List.set_cons_succ, i64_w, i32_w]
                        rfl
                      refine pure_ (i := 4) (N := some 59) (v := ?_) (a' := ?_) #[true, true, true, true, true, false, false, false, false, false] rfl rfl (any_of HT_.out (by kernel_rfl)) (fun _ _ _ h => h) (Or.inl ⟨by rfl, ?_⟩) ?_ ?_
                      rotate_left
                      · intro w'
                        go_simp
                        with_reducible rfl
                      rotate_left
                      · simp only [Act.put, List.setIfInBounds_toArray, List.set_cons_zero, List.set_cons_succ, i64_w, i32_w]
                        rfl
                      refine pure_ (i := 5) (N := some 60) (v := ?_) (a' := ?_) #[true, true, true, true, true, true, false, false, false, false] rfl rfl (any_of HT_.out (by kernel_rfl)) (fun _ _ _ h => h) (Or.inl ⟨by rfl, ?_⟩) ?_ ?_
                      rotate_left
                      · intro w'
                        go_simp
                        with_reducible rfl
                      rotate_left
                      · simp only [Act.put, List.setIfInBounds_toArray, List.set_cons_zero, List.set_cons_succ, i64_w, i32_w]
                        rfl
                      refine pure_ (i := 7) (N := some 62) (v := ?_) (a' := ?_) #[true, true, true, true, true, true, false, true, false, false] rfl rfl (any_of HT_.out (by kernel_rfl)) (fun _ _ _ h => h) (Or.inl ⟨by rfl, ?_⟩) ?_ ?_
                      rotate_left
                      · intro w'
                        go_simp
                        with_reducible rfl
                      rotate_left
                      · simp only [Act.put, List.setIfInBounds_toArray, List.set_cons_zero, List.set_cons_succ, i64_w, i32_w]
                        rfl
                      refine take_ (i := 6) (N := some 61) (v := ?_) (a' := ?_) #[true, true, true, true, true, true, true, true, false, false] rfl rfl (take_ofW HT_.out HW_.out (by kernel_rfl)) (fun _ _ _ h => h) (Or.inl ⟨by rfl, ?_⟩) hHeld ?_ ?_
                      rotate_left
                      · rintro w' ⟨s0, s1, s2, s3, s4, s5, s6, s7⟩
                        go_simp
                        with_reducible rfl
                      rotate_left
                      · simp only [Act.put, List.setIfInBounds_toArray, List.set_cons_zero, List.set_cons_succ, i64_w, i32_w]
                        rfl
                      refine one_ (i := 8) (N := some 63) #[true, true, true, true, true, true, true, true, true, false] rfl rfl (one_of HT_.out (by kernel_rfl)) (by decide) (fun K hK => ?_)
                      refine goes_ Try.func78 (by kernel_rfl) rfl #[.int .i64 t144] (by rfl) rfl rfl Kit.am ?_
                      with_reducible refine (laws_markText.calls k1 t144 t146 _ A19.out).mono ?_
                      rintro e w47 ⟨rfl, hb⟩
                      refine ⟨_, rfl, ?_⟩
                      replace HB := Kit.hB hb
                      (try clear hb)
                      (try clear hb2)
                      (try clear hk)
                      (try clear hi)
                      refine hK.out _ _ ⟨(Kit.hx HB.out hw145_0), (Kit.hx HB.out hw145_1), (Kit.hx HB.out hw145_2), (Kit.hx HB.out hw145_3), (Kit.hx HB.out hw145_4), (Kit.hx HB.out hw145_5), (Kit.hx HB.out hw145_6), (Kit.hx HB.out hw145_7)⟩ (fun hHeld => ?_)
                      clear hK K
                      refine norm_ (a' := ?_) ?_ ?_
                      rotate_left
                      · show Act.put _ (some 63) _ = _
                        simp only [Act.put, List.setIfInBounds_toArray, List.set_cons_zero, List.set_cons_succ, i64_w, i32_w]
                        rfl
                      refine pure_ (i := 9) (N := some 64) (v := ?_) (a' := ?_) #[true, true, true, true, true, true, true, true, true, true] rfl rfl (any_of HT_.out (by kernel_rfl)) (fun _ _ _ h => h) (Or.inl ⟨by rfl, ?_⟩) ?_ ?_
                      rotate_left
                      · intro w'
                        go_simp
                        with_reducible rfl
                      rotate_left
                      · simp only [Act.put, List.setIfInBounds_toArray, List.set_cons_zero, List.set_cons_succ, i64_w, i32_w]
                        rfl
                      refine done_ (done_of HT_.out (by kernel_rfl)) ?_
                      have p147 : 0 ≤ (x5_1 : Int) := of_decide_eq_true Kit.asm
                      have q147 : x5_1 < (l0.length : Int) := of_decide_eq_true Kit.asm
                      obtain ⟨ad147, A147_1, c147_1, A147_3, c147_3, e147, hx147_0, hx147_1, hx147_2, hx147_3, hx147_4, hx147_5, hx147_6, hx147_7, hl147_1, hi147_1, hl147_3, hi147_3⟩ := at_T87 HR0.out x5_1 p147 q147
                      have hk147_1 := Aside0.mk hx147_1
                      have hk147_3 := Aside0.mk hx147_3
                      obtain rfl : ad138 = ad147 := (by injection e147)
                      try (have e_ := hx147_1.symm.trans hk138_1.out; injection e_ with e_; injection e_ with e_1 e_2 e_3; subst e_1; subst e_3)
                      try (have e_ := hx147_3.symm.trans hk138_3.out; injection e_ with e_; injection e_ with e_1 e_2 e_3; subst e_1; subst e_3)
                      try (have e_ := hx147_1.symm.trans hk140_1.out; injection e_ with e_; injection e_ with e_1 e_2 e_3; subst e_1; subst e_3)
                      try (have e_ := hx147_3.symm.trans hk140_3.out; injection e_ with e_; injection e_ with e_1 e_2 e_3; subst e_1; subst e_3)
                      try (have e_ := hx147_1.symm.trans hk145_1.out; injection e_ with e_; injection e_ with e_1 e_2 e_3; subst e_1; subst e_3)
                      try (have e_ := hx147_3.symm.trans hk145_3.out; injection e_ with e_; injection e_ with e_1 e_2 e_3; subst e_1; subst e_3)
                      replace hx147_0 := Kit.hx HB.out hx147_0
                      replace hx147_1 := Kit.hx HB.out hx147_1
                      replace hx147_2 := Kit.hx HB.out hx147_2
                      replace hx147_3 := Kit.hx HB.out hx147_3
                      replace hx147_4 := Kit.hx HB.out hx147_4
                      replace hx147_5 := Kit.hx HB.out hx147_5
                      replace hx147_6 := Kit.hx HB.out hx147_6
                      replace hx147_7 := Kit.hx HB.out hx147_7
                      have HR147_1 := Aside0.mk hi147_1
                      have HC147_1 := Aside0.mk hl147_1
                      clear hi147_1 hl147_1
                      have HR147_3 := Aside0.mk hi147_3
                      have HC147_3 := Aside0.mk hl147_3
                      clear hi147_3 hl147_3
                      replace p147 := eq_true p147
                      replace q147 := eq_true q147
                      try go_wp2
                      go_ret
                      exact ⟨Kit.er, Kit.bl⟩
                  · rw [if_neg c20] at H
                    have c20b0 : (((rd_T87 l0 x5_1).f0.f2.f2).toList == t146.toList) = false := beq_eq_false_iff_ne.mpr c20
                    have c20b1 : (((rd_T87 l0 x5_1).f0.f2.f2).toList != t146.toList) = true := bne_iff_ne.mpr c20
                    obtain rfl := Option.some.inj H
                    try go_wp2
                    replace HB := Aside0.mk (below_drew1 HB.out)
                    have p138 : 0 ≤ (x5_1 : Int) := of_decide_eq_true Kit.asm
                    have q138 : x5_1 < (l0.length : Int) := of_decide_eq_true Kit.asm
                    obtain ⟨ad138, A138_1, c138_1, A138_3, c138_3, e138, hx138_0, hx138_1, hx138_2, hx138_3, hx138_4, hx138_5, hx138_6, hx138_7, hl138_1, hi138_1, hl138_3, hi138_3⟩ := at_T87 HR0.out x5_1 p138 q138
                    have hk138_1 := Aside0.mk hx138_1
                    have hk138_3 := Aside0.mk hx138_3
                    have hw138_7 := hx138_7
                    have hw138_6 := hx138_6
                    have hw138_5 := hx138_5
                    have hw138_4 := hx138_4
                    have hw138_3 := hx138_3
                    have hw138_2 := hx138_2
                    have hw138_1 := hx138_1
                    have hw138_0 := hx138_0
                    cases e138
                    replace hx138_0 := Kit.hx HB.out hx138_0
                    replace hx138_1 := Kit.hx HB.out hx138_1
                    replace hx138_2 := Kit.hx HB.out hx138_2
                    replace hx138_3 := Kit.hx HB.out hx138_3
                    replace hx138_4 := Kit.hx HB.out hx138_4
                    replace hx138_5 := Kit.hx HB.out hx138_5
                    replace hx138_6 := Kit.hx HB.out hx138_6
                    replace hx138_7 := Kit.hx HB.out hx138_7
                    have HR138_1 := Aside0.mk hi138_1
                    have HC138_1 := Aside0.mk hl138_1
                    clear hi138_1 hl138_1
                    have HR138_3 := Aside0.mk hi138_3
                    have HC138_3 := Aside0.mk hl138_3
                    clear hi138_3 hl138_3
                    replace p138 := eq_true p138
                    replace q138 := eq_true q138
                    refine start_ (n := 9) (S := fun w' => w'.cell? (ad138.add ((x5_1).toNat * 8)) = some (.string ((rd_T87 l0 x5_1).f0.f0)) ∧ w'.cell? ⟨(ad138.add ((x5_1).toNat * 8)).block, (ad138.add ((x5_1).toNat * 8)).off + 1, none⟩ = some (.slice A138_1 ((rd_T87 l0 x5_1).f0.f1).length c138_1) ∧ w'.cell? ⟨(ad138.add ((x5_1).toNat * 8)).block, (ad138.add ((x5_1).toNat * 8)).off + 2, none⟩ = some (.int .i64 ((rd_T87 l0 x5_1).f0.f2.f0)) ∧ w'.cell? ⟨(ad138.add ((x5_1).toNat * 8)).block, (ad138.add ((x5_1).toNat * 8)).off + 3, none⟩ = some (.slice A138_3 ((rd_T87 l0 x5_1).f0.f2.f1).length c138_3) ∧ w'.cell? ⟨(ad138.add ((x5_1).toNat * 8)).block, (ad138.add ((x5_1).toNat * 8)).off + 4, none⟩ = some (.string ((rd_T87 l0 x5_1).f0.f2.f2)) ∧ w'.cell? ⟨(ad138.add ((x5_1).toNat * 8)).block, (ad138.add ((x5_1).toNat * 8)).off + 5, none⟩ = some (.int .i64 ((rd_T87 l0 x5_1).f0.f3)) ∧ w'.cell? ⟨(ad138.add ((x5_1).toNat * 8)).block, (ad138.add ((x5_1).toNat * 8)).off + 6, none⟩ = some (.int .i64 ((rd_T87 l0 x5_1).f0.f4)) ∧ w'.cell? ⟨(ad138.add ((x5_1).toNat * 8)).block, (ad138.add ((x5_1).toNat * 8)).off + 7, none⟩ = some (.bool ((rd_T87 l0 x5_1).f1))) (ds := []) #[false, false, false, false, false, false, false, false, false] (by kernel_rfl) rfl rfl ⟨(Kit.hx HB.out hw138_0), (Kit.hx HB.out hw138_1), (Kit.hx HB.out hw138_2), (Kit.hx HB.out hw138_3), (Kit.hx HB.out hw138_4), (Kit.hx HB.out hw138_5), (Kit.hx HB.out hw138_6), (Kit.hx HB.out hw138_7)⟩ (fun hHeld => ?_); refine with_tabW laws_heldSlotS.tab4 laws_heldSlotS.bits4 (fun HT_ HW_ => ?_)
                    generalize wr.drew = w48 at HB HR138_1 HR138_3 hx138_0 hx138_1 hx138_2 hx138_3 hx138_4 hx138_5 hx138_6 hx138_7 hHeld ⊢
                    refine pure_ (i := 0) (N := some 12) (v := ?_) (a' := ?_) #[true, false, false, false, false, false, false, false, false] rfl rfl (any_of HT_.out (by kernel_rfl)) (fun _ _ _ h => h) (Or.inl ⟨by rfl, ?_⟩) ?_ ?_
                    rotate_left
                    · intro w'
                      go_simp
                      with_reducible rfl
                    rotate_left
                    · simp only [Act.put, List.setIfInBounds_toArray, List.set_cons_zero, List.set_cons_succ, i64_w, i32_w]
                      rfl
                    refine pure_ (i := 1) (N := some 13) (v := ?_) (a' := ?_) #[true, true, false, false, false, false, false, false, false] rfl rfl (any_of HT_.out (by kernel_rfl)) (fun _ _ _ h => h) (Or.inl ⟨by rfl, ?_⟩) ?_ ?_
                    rotate_left
                    · intro w'
                      go_simp
                      with_reducible rfl
                    rotate_left
                    · simp only [Act.put, List.setIfInBounds_toArray, List.set_cons_zero, List.set_cons_succ, i64_w, i32_w]
                      rfl
                    refine pure_ (i := 2) (N := some 14) (v := ?_) (a' := ?_) #[true, true, true, false, false, false, false, false, false] rfl rfl (any_of HT_.out (by kernel_rfl)) (fun _ _ _ h => h) (Or.inl ⟨by rfl, ?_⟩) ?_ ?_
                    rotate_left
                    · intro w'
                      go_simp
                      with_reducible rfl
                    rotate_left
                    · simp only [Act.put, List.setIfInBounds_toArray, List.set_cons_zero, List.set_cons_succ, i64_w, i32_w]
                      rfl
                    refine pure_ (i := 3) (N := some 15) (v := ?_) (a' := ?_) #[true, true, true, true, false, false, false, false, false] rfl rfl (any_of HT_.out (by kernel_rfl)) (fun _ _ _ h => h) (Or.inl ⟨by rfl, ?_⟩) ?_ ?_
                    rotate_left
                    · intro w'
                      go_simp
                      with_reducible rfl
                    rotate_left
                    · simp only [Act.put, List.setIfInBounds_toArray, List.set_cons_zero, List.set_cons_succ, i64_w, i32_w]
                      rfl
                    refine pure_ (i := 4) (N := some 16) (v := ?_) (a' := ?_) #[true, true, true, true, true, false, false, false, false] rfl rfl (any_of HT_.out (by kernel_rfl)) (fun _ _ _ h => h) (Or.inl ⟨by rfl, ?_⟩) ?_ ?_
                    rotate_left
                    · intro w'
                      go_simp
                      with_reducible rfl
                    rotate_left
                    · simp only [Act.put, List.setIfInBounds_toArray, List.set_cons_zero, List.set_cons_succ, i64_w, i32_w]
                      rfl
                    refine pure_ (i := 6) (N := some 18) (v := ?_) (a' := ?_) #[true, true, true, true, true, false, true, false, false] rfl rfl (any_of HT_.out (by kernel_rfl)) (fun _ _ _ h => h) (Or.inl ⟨by rfl, ?_⟩) ?_ ?_
                    rotate_left
                    · intro w'
                      go_simp
                      with_reducible rfl
                    rotate_left
                    · simp only [Act.put, List.setIfInBounds_toArray, List.set_cons_zero, List.set_cons_succ, i64_w, i32_w]
                      rfl
                    refine take_ (i := 5) (N := some 17) (v := ?_) (a' := ?_) #[true, true, true, true, true, true, true, false, false] rfl rfl (take_ofW HT_.out HW_.out (by kernel_rfl)) (fun _ _ _ h => h) (Or.inl ⟨by rfl, ?_⟩) hHeld ?_ ?_
                    rotate_left
                    · rintro w' ⟨s0, s1, s2, s3, s4, s5, s6, s7⟩
                      go_simp
                      with_reducible rfl
                    rotate_left
                    · simp only [Act.put, List.setIfInBounds_toArray, List.set_cons_zero, List.set_cons_succ, i64_w, i32_w]
                      rfl
                    refine one_ (i := 7) (N := some 19) #[true, true, true, true, true, true, true, true, false] rfl rfl (one_of HT_.out (by kernel_rfl)) (by decide) (fun K hK => ?_)
                    refine goes_ Try.func78 (by kernel_rfl) rfl #[.int .i64 x1_1] (by rfl) rfl rfl Kit.am ?_
                    with_reducible refine (laws_markText.calls k1 x1_1 t139 _ A5.out).mono ?_
                    rintro e w49 ⟨rfl, hb⟩
                    refine ⟨_, rfl, ?_⟩
                    replace HB := Kit.hB hb
                    (try clear hb)
                    (try clear hb2)
                    (try clear hk)
                    (try clear hi)
                    refine hK.out _ _ ⟨(Kit.hx HB.out hw138_0), (Kit.hx HB.out hw138_1), (Kit.hx HB.out hw138_2), (Kit.hx HB.out hw138_3), (Kit.hx HB.out hw138_4), (Kit.hx HB.out hw138_5), (Kit.hx HB.out hw138_6), (Kit.hx HB.out hw138_7)⟩ (fun hHeld => ?_)
                    clear hK K
                    refine norm_ (a' := ?_) ?_ ?_
                    rotate_left
                    · show Act.put _ (some 19) _ = _
                      simp only [Act.put, List.setIfInBounds_toArray, List.set_cons_zero, List.set_cons_succ, i64_w, i32_w]
                      rfl
                    refine pure_ (i := 8) (N := some 20) (v := ?_) (a' := ?_) #[true, true, true, true, true, true, true, true, true] rfl rfl (any_of HT_.out (by kernel_rfl)) (fun _ _ _ h => h) (Or.inl ⟨by rfl, ?_⟩) ?_ ?_
                    rotate_left
                    · intro w'
                      go_simp
                      with_reducible rfl
                    rotate_left
                    · simp only [Act.put, List.setIfInBounds_toArray, List.set_cons_zero, List.set_cons_succ, i64_w, i32_w]
                      rfl
                    refine done_ (done_of HT_.out (by kernel_rfl)) ?_
                    have p140 : 0 ≤ (x5_1 : Int) := of_decide_eq_true Kit.asm
                    have q140 : x5_1 < (l0.length : Int) := of_decide_eq_true Kit.asm
                    obtain ⟨ad140, A140_1, c140_1, A140_3, c140_3, e140, hx140_0, hx140_1, hx140_2, hx140_3, hx140_4, hx140_5, hx140_6, hx140_7, hl140_1, hi140_1, hl140_3, hi140_3⟩ := at_T87 HR0.out x5_1 p140 q140
                    have hk140_1 := Aside0.mk hx140_1
                    have hk140_3 := Aside0.mk hx140_3
                    obtain rfl : ad138 = ad140 := (by injection e140)
                    try (have e_ := hx140_1.symm.trans hk138_1.out; injection e_ with e_; injection e_ with e_1 e_2 e_3; subst e_1; subst e_3)
                    try (have e_ := hx140_3.symm.trans hk138_3.out; injection e_ with e_; injection e_ with e_1 e_2 e_3; subst e_1; subst e_3)
                    replace hx140_0 := Kit.hx HB.out hx140_0
                    replace hx140_1 := Kit.hx HB.out hx140_1
                    replace hx140_2 := Kit.hx HB.out hx140_2
                    replace hx140_3 := Kit.hx HB.out hx140_3
                    replace hx140_4 := Kit.hx HB.out hx140_4
                    replace hx140_5 := Kit.hx HB.out hx140_5
                    replace hx140_6 := Kit.hx HB.out hx140_6
                    replace hx140_7 := Kit.hx HB.out hx140_7
                    have HR140_1 := Aside0.mk hi140_1
                    have HC140_1 := Aside0.mk hl140_1
                    clear hi140_1 hl140_1
                    have HR140_3 := Aside0.mk hi140_3
                    have HC140_3 := Aside0.mk hl140_3
                    clear hi140_3 hl140_3
                    replace p140 := eq_true p140
                    replace q140 := eq_true q140
                    try go_wp2_with (first | ((with_reducible refine gate_callee (f := 53) rfl ?_); refine goesL_ (some 30) rfl rfl Try.func53 (by kernel_rfl) rfl #[.slice A140_1 ((rd_T87 l0 x5_1).f0.f1).length c140_1, .int .i64 (wrap64 (x1_1 + 1))] rfl Kit.am ?_; (with_reducible refine (laws_heldFieldS.calls k1 _ _ ((rd_T87 l0 x5_1).f0.f1) (wrap64 (x1_1 + 1)) t141 _ ?side1 ?side2 A7.out).mono ?_); (case side1 => exact Kit.cr HR140_1.out HB.out); (case side2 => exact HC140_1.out); rintro e w50 ⟨rfl, hb⟩; refine ⟨_, rfl, ?_⟩; replace HB := Kit.hB hb; (try clear hb); (try clear hb2); (try clear hk); (try clear hi); have p142 : 0 ≤ (x5_1 : Int) := of_decide_eq_true Kit.asm; have q142 : x5_1 < (l0.length : Int) := of_decide_eq_true Kit.asm; obtain ⟨ad142, A142_1, c142_1, A142_3, c142_3, e142, hx142_0, hx142_1, hx142_2, hx142_3, hx142_4, hx142_5, hx142_6, hx142_7, hl142_1, hi142_1, hl142_3, hi142_3⟩ := at_T87 HR0.out x5_1 p142 q142; obtain rfl : ad138 = ad142 := (by injection e142); replace hx142_0 := Kit.hx HB.out hx142_0; replace hx142_1 := Kit.hx HB.out hx142_1; replace hx142_2 := Kit.hx HB.out hx142_2; replace hx142_3 := Kit.hx HB.out hx142_3; replace hx142_4 := Kit.hx HB.out hx142_4; replace hx142_5 := Kit.hx HB.out hx142_5; replace hx142_6 := Kit.hx HB.out hx142_6; replace hx142_7 := Kit.hx HB.out hx142_7; have HR142_1 := Aside0.mk hi142_1; have HC142_1 := Aside0.mk hl142_1; clear hi142_1 hl142_1; have HR142_3 := Aside0.mk hi142_3; have HC142_3 := Aside0.mk hl142_3; clear hi142_3 hl142_3; replace p142 := eq_true p142; replace q142 := eq_true q142; have p143 : 0 ≤ (x5_1 : Int) := of_decide_eq_true Kit.asm; have q143 : x5_1 < (l0.length : Int) := of_decide_eq_true Kit.asm; obtain ⟨ad143, A143_1, c143_1, A143_3, c143_3, e143, hx143_0, hx143_1, hx143_2, hx143_3, hx143_4, hx143_5, hx143_6, hx143_7, hl143_1, hi143_1, hl143_3, hi143_3⟩ := at_T87 HR0.out x5_1 p143 q143; obtain rfl : ad138 = ad143 := (by injection e143); replace hx143_0 := Kit.hx HB.out hx143_0; replace hx143_1 := Kit.hx HB.out hx143_1; replace hx143_2 := Kit.hx HB.out hx143_2; replace hx143_3 := Kit.hx HB.out hx143_3; replace hx143_4 := Kit.hx HB.out hx143_4; replace hx143_5 := Kit.hx HB.out hx143_5; replace hx143_6 := Kit.hx HB.out hx143_6; replace hx143_7 := Kit.hx HB.out hx143_7; have HR143_1 := Aside0.mk hi143_1; have HC143_1 := Aside0.mk hl143_1; clear hi143_1 hl143_1; have HR143_3 := Aside0.mk hi143_3; have HC143_3 := Aside0.mk hl143_3; clear hi143_3 hl143_3; replace p143 := eq_true p143; replace q143 := eq_true q143; have ea_ := Option.some.inj (hx142_1.symm.trans hx143_1); injection ea_ with ea_ en_ ec_; subst ea_; subst ec_; clear en_; have ea_ := Option.some.inj (hx142_3.symm.trans hx143_3); injection ea_ with ea_ en_ ec_; subst ea_; subst ec_; clear en_) | ((with_reducible refine gate_callee (f := 53) rfl ?_); refine goesL_ (some 52) rfl rfl Try.func53 (by kernel_rfl) rfl #[.slice A142_3 ((rd_T87 l0 x5_1).f0.f2.f1).length c142_3, .int .i64 (wrap64 (t141 + 1))] rfl Kit.am ?_; (with_reducible refine (laws_heldFieldS.calls k1 _ _ ((rd_T87 l0 x5_1).f0.f2.f1) (wrap64 (t141 + 1)) t144 _ ?side1 ?side2 A13.out).mono ?_); (case side1 => exact Kit.cr HR143_3.out HB.out); (case side2 => exact HC143_3.out); rintro e w51 ⟨rfl, hb⟩; refine ⟨_, rfl, ?_⟩; replace HB := Kit.hB hb; (try clear hb); (try clear hb2); (try clear hk); (try clear hi)))
                    replace HB := Aside0.mk (below_drew1 HB.out)
                    have p145 : 0 ≤ (x5_1 : Int) := of_decide_eq_true Kit.asm
                    have q145 : x5_1 < (l0.length : Int) := of_decide_eq_true Kit.asm
                    obtain ⟨ad145, A145_1, c145_1, A145_3, c145_3, e145, hx145_0, hx145_1, hx145_2, hx145_3, hx145_4, hx145_5, hx145_6, hx145_7, hl145_1, hi145_1, hl145_3, hi145_3⟩ := at_T87 HR0.out x5_1 p145 q145
                    have hk145_1 := Aside0.mk hx145_1
                    have hk145_3 := Aside0.mk hx145_3
                    have hw145_7 := hx145_7
                    have hw145_6 := hx145_6
                    have hw145_5 := hx145_5
                    have hw145_4 := hx145_4
                    have hw145_3 := hx145_3
                    have hw145_2 := hx145_2
                    have hw145_1 := hx145_1
                    have hw145_0 := hx145_0
                    obtain rfl : ad138 = ad145 := (by injection e145)
                    replace hx145_0 := Kit.hx HB.out hx145_0
                    replace hx145_1 := Kit.hx HB.out hx145_1
                    replace hx145_2 := Kit.hx HB.out hx145_2
                    replace hx145_3 := Kit.hx HB.out hx145_3
                    replace hx145_4 := Kit.hx HB.out hx145_4
                    replace hx145_5 := Kit.hx HB.out hx145_5
                    replace hx145_6 := Kit.hx HB.out hx145_6
                    replace hx145_7 := Kit.hx HB.out hx145_7
                    have HR145_1 := Aside0.mk hi145_1
                    have HC145_1 := Aside0.mk hl145_1
                    clear hi145_1 hl145_1
                    have HR145_3 := Aside0.mk hi145_3
                    have HC145_3 := Aside0.mk hl145_3
                    clear hi145_3 hl145_3
                    replace p145 := eq_true p145
                    replace q145 := eq_true q145
                    refine start_ (n := 10) (S := fun w' => w'.cell? (ad138.add ((x5_1).toNat * 8)) = some (.string ((rd_T87 l0 x5_1).f0.f0)) ∧ w'.cell? ⟨(ad138.add ((x5_1).toNat * 8)).block, (ad138.add ((x5_1).toNat * 8)).off + 1, none⟩ = some (.slice A145_1 ((rd_T87 l0 x5_1).f0.f1).length c145_1) ∧ w'.cell? ⟨(ad138.add ((x5_1).toNat * 8)).block, (ad138.add ((x5_1).toNat * 8)).off + 2, none⟩ = some (.int .i64 ((rd_T87 l0 x5_1).f0.f2.f0)) ∧ w'.cell? ⟨(ad138.add ((x5_1).toNat * 8)).block, (ad138.add ((x5_1).toNat * 8)).off + 3, none⟩ = some (.slice A145_3 ((rd_T87 l0 x5_1).f0.f2.f1).length c145_3) ∧ w'.cell? ⟨(ad138.add ((x5_1).toNat * 8)).block, (ad138.add ((x5_1).toNat * 8)).off + 4, none⟩ = some (.string ((rd_T87 l0 x5_1).f0.f2.f2)) ∧ w'.cell? ⟨(ad138.add ((x5_1).toNat * 8)).block, (ad138.add ((x5_1).toNat * 8)).off + 5, none⟩ = some (.int .i64 ((rd_T87 l0 x5_1).f0.f3)) ∧ w'.cell? ⟨(ad138.add ((x5_1).toNat * 8)).block, (ad138.add ((x5_1).toNat * 8)).off + 6, none⟩ = some (.int .i64 ((rd_T87 l0 x5_1).f0.f4)) ∧ w'.cell? ⟨(ad138.add ((x5_1).toNat * 8)).block, (ad138.add ((x5_1).toNat * 8)).off + 7, none⟩ = some (.bool ((rd_T87 l0 x5_1).f1))) (ds := []) #[false, false, false, false, false, false, false, false, false, false] (by kernel_rfl) rfl rfl ⟨(Kit.hx HB.out hw145_0), (Kit.hx HB.out hw145_1), (Kit.hx HB.out hw145_2), (Kit.hx HB.out hw145_3), (Kit.hx HB.out hw145_4), (Kit.hx HB.out hw145_5), (Kit.hx HB.out hw145_6), (Kit.hx HB.out hw145_7)⟩ (fun hHeld => ?_); refine with_tabW laws_heldSlotS.tab16 laws_heldSlotS.bits16 (fun HT_ HW_ => ?_)
                    generalize w51.drew = w52 at HB HR145_1 HR145_3 hx145_0 hx145_1 hx145_2 hx145_3 hx145_4 hx145_5 hx145_6 hx145_7 hHeld ⊢
                    refine pure_ (i := 0) (N := some 55) (v := ?_) (a' := ?_) #[true, false, false, false, false, false, false, false, false, false] rfl rfl (any_of HT_.out (by kernel_rfl)) (fun _ _ _ h => h) (Or.inl ⟨by rfl, ?_⟩) ?_ ?_
                    rotate_left
                    · intro w'
                      go_simp
                      with_reducible rfl
                    rotate_left
                    · simp only [Act.put, List.setIfInBounds_toArray, List.set_cons_zero, List.set_cons_succ, i64_w, i32_w]
                      rfl
                    refine pure_ (i := 1) (N := some 56) (v := ?_) (a' := ?_) #[true, true, false, false, false, false, false, false, false, false] rfl rfl (any_of HT_.out (by kernel_rfl)) (fun _ _ _ h => h) (Or.inl ⟨by rfl, ?_⟩) ?_ ?_
                    rotate_left
                    · intro w'
                      go_simp
                      with_reducible rfl
                    rotate_left
                    · simp only [Act.put, List.setIfInBounds_toArray, List.set_cons_zero, List.set_cons_succ, i64_w, i32_w]
                      rfl
                    refine pure_ (i := 2) (N := some 57) (v := ?_) (a' := ?_) #[true, true, true, false, false, false, false, false, false, false] rfl rfl (any_of HT_.out (by kernel_rfl)) (fun _ _ _ h => h) (Or.inl ⟨by rfl, ?_⟩) ?_ ?_
                    rotate_left
                    · intro w'
                      go_simp
                      with_reducible rfl
                    rotate_left
                    · simp only [Act.put, List.setIfInBounds_toArray, List.set_cons_zero, List.set_cons_succ, i64_w, i32_w]
                      rfl
                    refine pure_ (i := 3) (N := some 58) (v := ?_) (a' := ?_) #[true, true, true, true, false, false, false, false, false, false] rfl rfl (any_of HT_.out (by kernel_rfl)) (fun _ _ _ h => h) (Or.inl ⟨by rfl, ?_⟩) ?_ ?_
                    rotate_left
                    · intro w'
                      go_simp
                      with_reducible rfl
                    rotate_left
                    · simp only [Act.put, List.setIfInBounds_toArray, List.set_cons_zero, List.set_cons_succ, i64_w, i32_w]
                      rfl
                    refine pure_ (i := 4) (N := some 59) (v := ?_) (a' := ?_) #[true, true, true, true, true, false, false, false, false, false] rfl rfl (any_of HT_.out (by kernel_rfl)) (fun _ _ _ h => h) (Or.inl ⟨by rfl, ?_⟩) ?_ ?_
                    rotate_left
                    · intro w'
                      go_simp
                      with_reducible rfl
                    rotate_left
                    · simp only [Act.put, List.setIfInBounds_toArray, List.set_cons_zero, List.set_cons_succ, i64_w, i32_w]
                      rfl
                    refine pure_ (i := 5) (N := some 60) (v := ?_) (a' := ?_) #[true, true, true, true, true, true, false, false, false, false] rfl rfl (any_of HT_.out (by kernel_rfl)) (fun _ _ _ h => h) (Or.inl ⟨by rfl, ?_⟩) ?_ ?_
                    rotate_left
                    · intro w'
                      go_simp
                      with_reducible rfl
                    rotate_left
                    · simp only [Act.put, List.setIfInBounds_toArray, List.set_cons_zero, List.set_cons_succ, i64_w, i32_w]
                      rfl
                    refine pure_ (i := 7) (N := some 62) (v := ?_) (a' := ?_) #[true, true, true, true, true, true, false, true, false, false] rfl rfl (any_of HT_.out (by kernel_rfl)) (fun _ _ _ h => h) (Or.inl ⟨by rfl, ?_⟩) ?_ ?_
                    rotate_left
                    · intro w'
                      go_simp
                      with_reducible rfl
                    rotate_left
                    · simp only [Act.put, List.setIfInBounds_toArray, List.set_cons_zero, List.set_cons_succ, i64_w, i32_w]
                      rfl
                    refine take_ (i := 6) (N := some 61) (v := ?_) (a' := ?_) #[true, true, true, true, true, true, true, true, false, false] rfl rfl (take_ofW HT_.out HW_.out (by kernel_rfl)) (fun _ _ _ h => h) (Or.inl ⟨by rfl, ?_⟩) hHeld ?_ ?_
                    rotate_left
                    · rintro w' ⟨s0, s1, s2, s3, s4, s5, s6, s7⟩
                      go_simp
                      with_reducible rfl
                    rotate_left
                    · simp only [Act.put, List.setIfInBounds_toArray, List.set_cons_zero, List.set_cons_succ, i64_w, i32_w]
                      rfl
                    refine one_ (i := 8) (N := some 63) #[true, true, true, true, true, true, true, true, true, false] rfl rfl (one_of HT_.out (by kernel_rfl)) (by decide) (fun K hK => ?_)
                    refine goes_ Try.func78 (by kernel_rfl) rfl #[.int .i64 t144] (by rfl) rfl rfl Kit.am ?_
                    with_reducible refine (laws_markText.calls k1 t144 t146 _ A19.out).mono ?_
                    rintro e w53 ⟨rfl, hb⟩
                    refine ⟨_, rfl, ?_⟩
                    replace HB := Kit.hB hb
                    (try clear hb)
                    (try clear hb2)
                    (try clear hk)
                    (try clear hi)
                    refine hK.out _ _ ⟨(Kit.hx HB.out hw145_0), (Kit.hx HB.out hw145_1), (Kit.hx HB.out hw145_2), (Kit.hx HB.out hw145_3), (Kit.hx HB.out hw145_4), (Kit.hx HB.out hw145_5), (Kit.hx HB.out hw145_6), (Kit.hx HB.out hw145_7)⟩ (fun hHeld => ?_)
                    clear hK K
                    refine norm_ (a' := ?_) ?_ ?_
                    rotate_left
                    · show Act.put _ (some 63) _ = _
                      simp only [Act.put, List.setIfInBounds_toArray, List.set_cons_zero, List.set_cons_succ, i64_w, i32_w]
                      rfl
                    refine pure_ (i := 9) (N := some 64) (v := ?_) (a' := ?_) #[true, true, true, true, true, true, true, true, true, true] rfl rfl (any_of HT_.out (by kernel_rfl)) (fun _ _ _ h => h) (Or.inl ⟨by rfl, ?_⟩) ?_ ?_
                    rotate_left
                    · intro w'
                      go_simp
                      with_reducible rfl
                    rotate_left
                    · simp only [Act.put, List.setIfInBounds_toArray, List.set_cons_zero, List.set_cons_succ, i64_w, i32_w]
                      rfl
                    refine done_ (done_of HT_.out (by kernel_rfl)) ?_
                    try go_wp2
                    go_ret
                    exact ⟨Kit.er, Kit.bl⟩
              · rw [if_neg c12] at H
                have c12b0 : (((rd_T87 l0 x5_1).f0.f2.f0) == t141) = false := beq_eq_false_iff_ne.mpr c12
                have c12b1 : (((rd_T87 l0 x5_1).f0.f2.f0) != t141) = true := bne_iff_ne.mpr c12
                obtain rfl := Option.some.inj H
                try go_wp2
                replace HB := Aside0.mk (below_drew1 HB.out)
                have p138 : 0 ≤ (x5_1 : Int) := of_decide_eq_true Kit.asm
                have q138 : x5_1 < (l0.length : Int) := of_decide_eq_true Kit.asm
                obtain ⟨ad138, A138_1, c138_1, A138_3, c138_3, e138, hx138_0, hx138_1, hx138_2, hx138_3, hx138_4, hx138_5, hx138_6, hx138_7, hl138_1, hi138_1, hl138_3, hi138_3⟩ := at_T87 HR0.out x5_1 p138 q138
                have hk138_1 := Aside0.mk hx138_1
                have hk138_3 := Aside0.mk hx138_3
                have hw138_7 := hx138_7
                have hw138_6 := hx138_6
                have hw138_5 := hx138_5
                have hw138_4 := hx138_4
                have hw138_3 := hx138_3
                have hw138_2 := hx138_2
                have hw138_1 := hx138_1
                have hw138_0 := hx138_0
                cases e138
                replace hx138_0 := Kit.hx HB.out hx138_0
                replace hx138_1 := Kit.hx HB.out hx138_1
                replace hx138_2 := Kit.hx HB.out hx138_2
                replace hx138_3 := Kit.hx HB.out hx138_3
                replace hx138_4 := Kit.hx HB.out hx138_4
                replace hx138_5 := Kit.hx HB.out hx138_5
                replace hx138_6 := Kit.hx HB.out hx138_6
                replace hx138_7 := Kit.hx HB.out hx138_7
                have HR138_1 := Aside0.mk hi138_1
                have HC138_1 := Aside0.mk hl138_1
                clear hi138_1 hl138_1
                have HR138_3 := Aside0.mk hi138_3
                have HC138_3 := Aside0.mk hl138_3
                clear hi138_3 hl138_3
                replace p138 := eq_true p138
                replace q138 := eq_true q138
                refine start_ (n := 9) (S := fun w' => w'.cell? (ad138.add ((x5_1).toNat * 8)) = some (.string ((rd_T87 l0 x5_1).f0.f0)) ∧ w'.cell? ⟨(ad138.add ((x5_1).toNat * 8)).block, (ad138.add ((x5_1).toNat * 8)).off + 1, none⟩ = some (.slice A138_1 ((rd_T87 l0 x5_1).f0.f1).length c138_1) ∧ w'.cell? ⟨(ad138.add ((x5_1).toNat * 8)).block, (ad138.add ((x5_1).toNat * 8)).off + 2, none⟩ = some (.int .i64 ((rd_T87 l0 x5_1).f0.f2.f0)) ∧ w'.cell? ⟨(ad138.add ((x5_1).toNat * 8)).block, (ad138.add ((x5_1).toNat * 8)).off + 3, none⟩ = some (.slice A138_3 ((rd_T87 l0 x5_1).f0.f2.f1).length c138_3) ∧ w'.cell? ⟨(ad138.add ((x5_1).toNat * 8)).block, (ad138.add ((x5_1).toNat * 8)).off + 4, none⟩ = some (.string ((rd_T87 l0 x5_1).f0.f2.f2)) ∧ w'.cell? ⟨(ad138.add ((x5_1).toNat * 8)).block, (ad138.add ((x5_1).toNat * 8)).off + 5, none⟩ = some (.int .i64 ((rd_T87 l0 x5_1).f0.f3)) ∧ w'.cell? ⟨(ad138.add ((x5_1).toNat * 8)).block, (ad138.add ((x5_1).toNat * 8)).off + 6, none⟩ = some (.int .i64 ((rd_T87 l0 x5_1).f0.f4)) ∧ w'.cell? ⟨(ad138.add ((x5_1).toNat * 8)).block, (ad138.add ((x5_1).toNat * 8)).off + 7, none⟩ = some (.bool ((rd_T87 l0 x5_1).f1))) (ds := []) #[false, false, false, false, false, false, false, false, false] (by kernel_rfl) rfl rfl ⟨(Kit.hx HB.out hw138_0), (Kit.hx HB.out hw138_1), (Kit.hx HB.out hw138_2), (Kit.hx HB.out hw138_3), (Kit.hx HB.out hw138_4), (Kit.hx HB.out hw138_5), (Kit.hx HB.out hw138_6), (Kit.hx HB.out hw138_7)⟩ (fun hHeld => ?_); refine with_tabW laws_heldSlotS.tab4 laws_heldSlotS.bits4 (fun HT_ HW_ => ?_)
                generalize wr.drew = w54 at HB HR138_1 HR138_3 hx138_0 hx138_1 hx138_2 hx138_3 hx138_4 hx138_5 hx138_6 hx138_7 hHeld ⊢
                refine pure_ (i := 0) (N := some 12) (v := ?_) (a' := ?_) #[true, false, false, false, false, false, false, false, false] rfl rfl (any_of HT_.out (by kernel_rfl)) (fun _ _ _ h => h) (Or.inl ⟨by rfl, ?_⟩) ?_ ?_
                rotate_left
                · intro w'
                  go_simp
                  with_reducible rfl
                rotate_left
                · simp only [Act.put, List.setIfInBounds_toArray, List.set_cons_zero, List.set_cons_succ, i64_w, i32_w]
                  rfl
                refine pure_ (i := 1) (N := some 13) (v := ?_) (a' := ?_) #[true, true, false, false, false, false, false, false, false] rfl rfl (any_of HT_.out (by kernel_rfl)) (fun _ _ _ h => h) (Or.inl ⟨by rfl, ?_⟩) ?_ ?_
                rotate_left
                · intro w'
                  go_simp
                  with_reducible rfl
                rotate_left
                · simp only [Act.put, List.setIfInBounds_toArray, List.set_cons_zero, List.set_cons_succ, i64_w, i32_w]
                  rfl
                refine pure_ (i := 2) (N := some 14) (v := ?_) (a' := ?_) #[true, true, true, false, false, false, false, false, false] rfl rfl (any_of HT_.out (by kernel_rfl)) (fun _ _ _ h => h) (Or.inl ⟨by rfl, ?_⟩) ?_ ?_
                rotate_left
                · intro w'
                  go_simp
                  with_reducible rfl
                rotate_left
                · simp only [Act.put, List.setIfInBounds_toArray, List.set_cons_zero, List.set_cons_succ, i64_w, i32_w]
                  rfl
                refine pure_ (i := 3) (N := some 15) (v := ?_) (a' := ?_) #[true, true, true, true, false, false, false, false, false] rfl rfl (any_of HT_.out (by kernel_rfl)) (fun _ _ _ h => h) (Or.inl ⟨by rfl, ?_⟩) ?_ ?_
                rotate_left
                · intro w'
                  go_simp
                  with_reducible rfl
                rotate_left
                · simp only [Act.put, List.setIfInBounds_toArray, List.set_cons_zero, List.set_cons_succ, i64_w, i32_w]
                  rfl
                refine pure_ (i := 4) (N := some 16) (v := ?_) (a' := ?_) #[true, true, true, true, true, false, false, false, false] rfl rfl (any_of HT_.out (by kernel_rfl)) (fun _ _ _ h => h) (Or.inl ⟨by rfl, ?_⟩) ?_ ?_
                rotate_left
                · intro w'
                  go_simp
                  with_reducible rfl
                rotate_left
                · simp only [Act.put, List.setIfInBounds_toArray, List.set_cons_zero, List.set_cons_succ, i64_w, i32_w]
                  rfl
                refine pure_ (i := 6) (N := some 18) (v := ?_) (a' := ?_) #[true, true, true, true, true, false, true, false, false] rfl rfl (any_of HT_.out (by kernel_rfl)) (fun _ _ _ h => h) (Or.inl ⟨by rfl, ?_⟩) ?_ ?_
                rotate_left
                · intro w'
                  go_simp
                  with_reducible rfl
                rotate_left
                · simp only [Act.put, List.setIfInBounds_toArray, List.set_cons_zero, List.set_cons_succ, i64_w, i32_w]
                  rfl
                refine take_ (i := 5) (N := some 17) (v := ?_) (a' := ?_) #[true, true, true, true, true, true, true, false, false] rfl rfl (take_ofW HT_.out HW_.out (by kernel_rfl)) (fun _ _ _ h => h) (Or.inl ⟨by rfl, ?_⟩) hHeld ?_ ?_
                rotate_left
                · rintro w' ⟨s0, s1, s2, s3, s4, s5, s6, s7⟩
                  go_simp
                  with_reducible rfl
                rotate_left
                · simp only [Act.put, List.setIfInBounds_toArray, List.set_cons_zero, List.set_cons_succ, i64_w, i32_w]
                  rfl
                refine one_ (i := 7) (N := some 19) #[true, true, true, true, true, true, true, true, false] rfl rfl (one_of HT_.out (by kernel_rfl)) (by decide) (fun K hK => ?_)
                refine goes_ Try.func78 (by kernel_rfl) rfl #[.int .i64 x1_1] (by rfl) rfl rfl Kit.am ?_
                with_reducible refine (laws_markText.calls k1 x1_1 t139 _ A5.out).mono ?_
                rintro e w55 ⟨rfl, hb⟩
                refine ⟨_, rfl, ?_⟩
                replace HB := Kit.hB hb
                (try clear hb)
                (try clear hb2)
                (try clear hk)
                (try clear hi)
                refine hK.out _ _ ⟨(Kit.hx HB.out hw138_0), (Kit.hx HB.out hw138_1), (Kit.hx HB.out hw138_2), (Kit.hx HB.out hw138_3), (Kit.hx HB.out hw138_4), (Kit.hx HB.out hw138_5), (Kit.hx HB.out hw138_6), (Kit.hx HB.out hw138_7)⟩ (fun hHeld => ?_)
                clear hK K
                refine norm_ (a' := ?_) ?_ ?_
                rotate_left
                · show Act.put _ (some 19) _ = _
                  simp only [Act.put, List.setIfInBounds_toArray, List.set_cons_zero, List.set_cons_succ, i64_w, i32_w]
                  rfl
                refine pure_ (i := 8) (N := some 20) (v := ?_) (a' := ?_) #[true, true, true, true, true, true, true, true, true] rfl rfl (any_of HT_.out (by kernel_rfl)) (fun _ _ _ h => h) (Or.inl ⟨by rfl, ?_⟩) ?_ ?_
                rotate_left
                · intro w'
                  go_simp
                  with_reducible rfl
                rotate_left
                · simp only [Act.put, List.setIfInBounds_toArray, List.set_cons_zero, List.set_cons_succ, i64_w, i32_w]
                  rfl
                refine done_ (done_of HT_.out (by kernel_rfl)) ?_
                have p140 : 0 ≤ (x5_1 : Int) := of_decide_eq_true Kit.asm
                have q140 : x5_1 < (l0.length : Int) := of_decide_eq_true Kit.asm
                obtain ⟨ad140, A140_1, c140_1, A140_3, c140_3, e140, hx140_0, hx140_1, hx140_2, hx140_3, hx140_4, hx140_5, hx140_6, hx140_7, hl140_1, hi140_1, hl140_3, hi140_3⟩ := at_T87 HR0.out x5_1 p140 q140
                have hk140_1 := Aside0.mk hx140_1
                have hk140_3 := Aside0.mk hx140_3
                obtain rfl : ad138 = ad140 := (by injection e140)
                try (have e_ := hx140_1.symm.trans hk138_1.out; injection e_ with e_; injection e_ with e_1 e_2 e_3; subst e_1; subst e_3)
                try (have e_ := hx140_3.symm.trans hk138_3.out; injection e_ with e_; injection e_ with e_1 e_2 e_3; subst e_1; subst e_3)
                replace hx140_0 := Kit.hx HB.out hx140_0
                replace hx140_1 := Kit.hx HB.out hx140_1
                replace hx140_2 := Kit.hx HB.out hx140_2
                replace hx140_3 := Kit.hx HB.out hx140_3
                replace hx140_4 := Kit.hx HB.out hx140_4
                replace hx140_5 := Kit.hx HB.out hx140_5
                replace hx140_6 := Kit.hx HB.out hx140_6
                replace hx140_7 := Kit.hx HB.out hx140_7
                have HR140_1 := Aside0.mk hi140_1
                have HC140_1 := Aside0.mk hl140_1
                clear hi140_1 hl140_1
                have HR140_3 := Aside0.mk hi140_3
                have HC140_3 := Aside0.mk hl140_3
                clear hi140_3 hl140_3
                replace p140 := eq_true p140
                replace q140 := eq_true q140
                try go_wp2_with (first | ((with_reducible refine gate_callee (f := 53) rfl ?_); refine goesL_ (some 30) rfl rfl Try.func53 (by kernel_rfl) rfl #[.slice A140_1 ((rd_T87 l0 x5_1).f0.f1).length c140_1, .int .i64 (wrap64 (x1_1 + 1))] rfl Kit.am ?_; (with_reducible refine (laws_heldFieldS.calls k1 _ _ ((rd_T87 l0 x5_1).f0.f1) (wrap64 (x1_1 + 1)) t141 _ ?side1 ?side2 A7.out).mono ?_); (case side1 => exact Kit.cr HR140_1.out HB.out); (case side2 => exact HC140_1.out); rintro e w56 ⟨rfl, hb⟩; refine ⟨_, rfl, ?_⟩; replace HB := Kit.hB hb; (try clear hb); (try clear hb2); (try clear hk); (try clear hi); have p142 : 0 ≤ (x5_1 : Int) := of_decide_eq_true Kit.asm; have q142 : x5_1 < (l0.length : Int) := of_decide_eq_true Kit.asm; obtain ⟨ad142, A142_1, c142_1, A142_3, c142_3, e142, hx142_0, hx142_1, hx142_2, hx142_3, hx142_4, hx142_5, hx142_6, hx142_7, hl142_1, hi142_1, hl142_3, hi142_3⟩ := at_T87 HR0.out x5_1 p142 q142; obtain rfl : ad138 = ad142 := (by injection e142); replace hx142_0 := Kit.hx HB.out hx142_0; replace hx142_1 := Kit.hx HB.out hx142_1; replace hx142_2 := Kit.hx HB.out hx142_2; replace hx142_3 := Kit.hx HB.out hx142_3; replace hx142_4 := Kit.hx HB.out hx142_4; replace hx142_5 := Kit.hx HB.out hx142_5; replace hx142_6 := Kit.hx HB.out hx142_6; replace hx142_7 := Kit.hx HB.out hx142_7; have HR142_1 := Aside0.mk hi142_1; have HC142_1 := Aside0.mk hl142_1; clear hi142_1 hl142_1; have HR142_3 := Aside0.mk hi142_3; have HC142_3 := Aside0.mk hl142_3; clear hi142_3 hl142_3; replace p142 := eq_true p142; replace q142 := eq_true q142))
                go_ret
                exact ⟨Kit.er, Kit.bl⟩
          · rw [if_neg c6] at H
            have c6b0 : (((rd_T87 l0 x5_1).f0.f0).toList == t139.toList) = false := beq_eq_false_iff_ne.mpr c6
            have c6b1 : (((rd_T87 l0 x5_1).f0.f0).toList != t139.toList) = true := bne_iff_ne.mpr c6
            obtain rfl := Option.some.inj H
            try go_wp2
            replace HB := Aside0.mk (below_drew1 HB.out)
            have p138 : 0 ≤ (x5_1 : Int) := of_decide_eq_true Kit.asm
            have q138 : x5_1 < (l0.length : Int) := of_decide_eq_true Kit.asm
            obtain ⟨ad138, A138_1, c138_1, A138_3, c138_3, e138, hx138_0, hx138_1, hx138_2, hx138_3, hx138_4, hx138_5, hx138_6, hx138_7, hl138_1, hi138_1, hl138_3, hi138_3⟩ := at_T87 HR0.out x5_1 p138 q138
            have hk138_1 := Aside0.mk hx138_1
            have hk138_3 := Aside0.mk hx138_3
            have hw138_7 := hx138_7
            have hw138_6 := hx138_6
            have hw138_5 := hx138_5
            have hw138_4 := hx138_4
            have hw138_3 := hx138_3
            have hw138_2 := hx138_2
            have hw138_1 := hx138_1
            have hw138_0 := hx138_0
            cases e138
            replace hx138_0 := Kit.hx HB.out hx138_0
            replace hx138_1 := Kit.hx HB.out hx138_1
            replace hx138_2 := Kit.hx HB.out hx138_2
            replace hx138_3 := Kit.hx HB.out hx138_3
            replace hx138_4 := Kit.hx HB.out hx138_4
            replace hx138_5 := Kit.hx HB.out hx138_5
            replace hx138_6 := Kit.hx HB.out hx138_6
            replace hx138_7 := Kit.hx HB.out hx138_7
            have HR138_1 := Aside0.mk hi138_1
            have HC138_1 := Aside0.mk hl138_1
            clear hi138_1 hl138_1
            have HR138_3 := Aside0.mk hi138_3
            have HC138_3 := Aside0.mk hl138_3
            clear hi138_3 hl138_3
            replace p138 := eq_true p138
            replace q138 := eq_true q138
            refine start_ (n := 9) (S := fun w' => w'.cell? (ad138.add ((x5_1).toNat * 8)) = some (.string ((rd_T87 l0 x5_1).f0.f0)) ∧ w'.cell? ⟨(ad138.add ((x5_1).toNat * 8)).block, (ad138.add ((x5_1).toNat * 8)).off + 1, none⟩ = some (.slice A138_1 ((rd_T87 l0 x5_1).f0.f1).length c138_1) ∧ w'.cell? ⟨(ad138.add ((x5_1).toNat * 8)).block, (ad138.add ((x5_1).toNat * 8)).off + 2, none⟩ = some (.int .i64 ((rd_T87 l0 x5_1).f0.f2.f0)) ∧ w'.cell? ⟨(ad138.add ((x5_1).toNat * 8)).block, (ad138.add ((x5_1).toNat * 8)).off + 3, none⟩ = some (.slice A138_3 ((rd_T87 l0 x5_1).f0.f2.f1).length c138_3) ∧ w'.cell? ⟨(ad138.add ((x5_1).toNat * 8)).block, (ad138.add ((x5_1).toNat * 8)).off + 4, none⟩ = some (.string ((rd_T87 l0 x5_1).f0.f2.f2)) ∧ w'.cell? ⟨(ad138.add ((x5_1).toNat * 8)).block, (ad138.add ((x5_1).toNat * 8)).off + 5, none⟩ = some (.int .i64 ((rd_T87 l0 x5_1).f0.f3)) ∧ w'.cell? ⟨(ad138.add ((x5_1).toNat * 8)).block, (ad138.add ((x5_1).toNat * 8)).off + 6, none⟩ = some (.int .i64 ((rd_T87 l0 x5_1).f0.f4)) ∧ w'.cell? ⟨(ad138.add ((x5_1).toNat * 8)).block, (ad138.add ((x5_1).toNat * 8)).off + 7, none⟩ = some (.bool ((rd_T87 l0 x5_1).f1))) (ds := []) #[false, false, false, false, false, false, false, false, false] (by kernel_rfl) rfl rfl ⟨(Kit.hx HB.out hw138_0), (Kit.hx HB.out hw138_1), (Kit.hx HB.out hw138_2), (Kit.hx HB.out hw138_3), (Kit.hx HB.out hw138_4), (Kit.hx HB.out hw138_5), (Kit.hx HB.out hw138_6), (Kit.hx HB.out hw138_7)⟩ (fun hHeld => ?_); refine with_tabW laws_heldSlotS.tab4 laws_heldSlotS.bits4 (fun HT_ HW_ => ?_)
            generalize wr.drew = w57 at HB HR138_1 HR138_3 hx138_0 hx138_1 hx138_2 hx138_3 hx138_4 hx138_5 hx138_6 hx138_7 hHeld ⊢
            refine pure_ (i := 0) (N := some 12) (v := ?_) (a' := ?_) #[true, false, false, false, false, false, false, false, false] rfl rfl (any_of HT_.out (by kernel_rfl)) (fun _ _ _ h => h) (Or.inl ⟨by rfl, ?_⟩) ?_ ?_
            rotate_left
            · intro w'
              go_simp
              with_reducible rfl
            rotate_left
            · simp only [Act.put, List.setIfInBounds_toArray, List.set_cons_zero, List.set_cons_succ, i64_w, i32_w]
              rfl
            refine pure_ (i := 1) (N := some 13) (v := ?_) (a' := ?_) #[true, true, false, false, false, false, false, false, false] rfl rfl (any_of HT_.out (by kernel_rfl)) (fun _ _ _ h => h) (Or.inl ⟨by rfl, ?_⟩) ?_ ?_
            rotate_left
            · intro w'
              go_simp
              with_reducible rfl
            rotate_left
            · simp only [Act.put, List.setIfInBounds_toArray, List.set_cons_zero, List.set_cons_succ, i64_w, i32_w]
              rfl
            refine pure_ (i := 2) (N := some 14) (v := ?_) (a' := ?_) #[true, true, true, false, false, false, false, false, false] rfl rfl (any_of HT_.out (by kernel_rfl)) (fun _ _ _ h => h) (Or.inl ⟨by rfl, ?_⟩) ?_ ?_
            rotate_left
            · intro w'
              go_simp
              with_reducible rfl
            rotate_left
            · simp only [Act.put, List.setIfInBounds_toArray, List.set_cons_zero, List.set_cons_succ, i64_w, i32_w]
              rfl
            refine pure_ (i := 3) (N := some 15) (v := ?_) (a' := ?_) #[true, true, true, true, false, false, false, false, false] rfl rfl (any_of HT_.out (by kernel_rfl)) (fun _ _ _ h => h) (Or.inl ⟨by rfl, ?_⟩) ?_ ?_
            rotate_left
            · intro w'
              go_simp
              with_reducible rfl
            rotate_left
            · simp only [Act.put, List.setIfInBounds_toArray, List.set_cons_zero, List.set_cons_succ, i64_w, i32_w]
              rfl
            refine pure_ (i := 4) (N := some 16) (v := ?_) (a' := ?_) #[true, true, true, true, true, false, false, false, false] rfl rfl (any_of HT_.out (by kernel_rfl)) (fun _ _ _ h => h) (Or.inl ⟨by rfl, ?_⟩) ?_ ?_
            rotate_left
            · intro w'
              go_simp
              with_reducible rfl
            rotate_left
            · simp only [Act.put, List.setIfInBounds_toArray, List.set_cons_zero, List.set_cons_succ, i64_w, i32_w]
              rfl
            refine pure_ (i := 6) (N := some 18) (v := ?_) (a' := ?_) #[true, true, true, true, true, false, true, false, false] rfl rfl (any_of HT_.out (by kernel_rfl)) (fun _ _ _ h => h) (Or.inl ⟨by rfl, ?_⟩) ?_ ?_
            rotate_left
            · intro w'
              go_simp
              with_reducible rfl
            rotate_left
            · simp only [Act.put, List.setIfInBounds_toArray, List.set_cons_zero, List.set_cons_succ, i64_w, i32_w]
              rfl
            refine take_ (i := 5) (N := some 17) (v := ?_) (a' := ?_) #[true, true, true, true, true, true, true, false, false] rfl rfl (take_ofW HT_.out HW_.out (by kernel_rfl)) (fun _ _ _ h => h) (Or.inl ⟨by rfl, ?_⟩) hHeld ?_ ?_
            rotate_left
            · rintro w' ⟨s0, s1, s2, s3, s4, s5, s6, s7⟩
              go_simp
              with_reducible rfl
            rotate_left
            · simp only [Act.put, List.setIfInBounds_toArray, List.set_cons_zero, List.set_cons_succ, i64_w, i32_w]
              rfl
            refine one_ (i := 7) (N := some 19) #[true, true, true, true, true, true, true, true, false] rfl rfl (one_of HT_.out (by kernel_rfl)) (by decide) (fun K hK => ?_)
            refine goes_ Try.func78 (by kernel_rfl) rfl #[.int .i64 x1_1] (by rfl) rfl rfl Kit.am ?_
            with_reducible refine (laws_markText.calls k1 x1_1 t139 _ A5.out).mono ?_
            rintro e w58 ⟨rfl, hb⟩
            refine ⟨_, rfl, ?_⟩
            replace HB := Kit.hB hb
            (try clear hb)
            (try clear hb2)
            (try clear hk)
            (try clear hi)
            refine hK.out _ _ ⟨(Kit.hx HB.out hw138_0), (Kit.hx HB.out hw138_1), (Kit.hx HB.out hw138_2), (Kit.hx HB.out hw138_3), (Kit.hx HB.out hw138_4), (Kit.hx HB.out hw138_5), (Kit.hx HB.out hw138_6), (Kit.hx HB.out hw138_7)⟩ (fun hHeld => ?_)
            clear hK K
            refine norm_ (a' := ?_) ?_ ?_
            rotate_left
            · show Act.put _ (some 19) _ = _
              simp only [Act.put, List.setIfInBounds_toArray, List.set_cons_zero, List.set_cons_succ, i64_w, i32_w]
              rfl
            refine pure_ (i := 8) (N := some 20) (v := ?_) (a' := ?_) #[true, true, true, true, true, true, true, true, true] rfl rfl (any_of HT_.out (by kernel_rfl)) (fun _ _ _ h => h) (Or.inl ⟨by rfl, ?_⟩) ?_ ?_
            rotate_left
            · intro w'
              go_simp
              with_reducible rfl
            rotate_left
            · simp only [Act.put, List.setIfInBounds_toArray, List.set_cons_zero, List.set_cons_succ, i64_w, i32_w]
              rfl
            refine done_ (done_of HT_.out (by kernel_rfl)) ?_
            try go_wp2
            go_ret
            exact ⟨Kit.er, Kit.bl⟩
        · rw [if_neg c4] at H
          exact absurd H (by simp)
      · rw [if_neg c3] at H
        have c3b0 : decide (x5_1 < (l0.length : Int)) = false := decide_eq_false c3
        clear c3
        obtain rfl := Option.some.inj H
        go_wp2
        go_ret
        exact ⟨Kit.er, Kit.bl⟩

end Go.Proofs.Ytlhnhilaeoegoaa.QFnExactShardNew
