-- Written by own.py, a program of this session's own, which calls the kit's print. Lean checks it.
import Derived.Test.YthbmemimpakljaaQFnExactSameCachex0
import Derived.Test.YthbmemimpakljaaQFnExactSameCachex8
namespace Go.Proofs.Ythbmemimpakljaa.QFnExactSameCache
open Go.RowKit Go.Proofs.YthbmemimpakljaaW.PrintWords Go.Proofs.YthbmemimpakljaaW.PrintLast
attribute [local go_sem] Kit.run_store_one   -- for this text's walks alone
set_option linter.unusedVariables false
set_option linter.unusedSimpArgs false

/-! ### spec_SameShard: function 79 -/
mutual
def spec_SameShard.j0 : Nat → Bool → Int → Int → List (S131) → Int → Int → Int → List (S131) → Int → Option (Bool)
  | 0, _, _, _, _, _, _, _, _, _ => none
  | k + 1, x33, x263000, x263001, x263002, x263003, x264000, x264001, x264002, x264003 => if x33 = true then (some false) else (spec_SameShard.l0 k 0 x263000 x263001 x263002 x263003 x264000 x264001 x264002 x264003)
def spec_SameShard.l0 : Nat → Int → Int → Int → List (S131) → Int → Int → Int → List (S131) → Int → Option (Bool)
  | 0, _, _, _, _, _, _, _, _, _ => none
  | k + 1, x5, x263000, x263001, x263002, x263003, x264000, x264001, x264002, x264003 => if x5 < (x263002.length : Int) then (if 0 ≤ x5 then (if x5 < (x264002.length : Int) then (if (((rd_T131 x263002 x5).f1) != ((rd_T131 x264002 x5).f1)) = true then (some false) else ((spec_l12SameItem.f k ((rd_T131 x263002 x5).f0.f0) ((rd_T131 x263002 x5).f0.f1) ((rd_T131 x263002 x5).f0.f2.f0) ((rd_T131 x263002 x5).f0.f2.f1) ((rd_T131 x263002 x5).f0.f2.f2) ((rd_T131 x263002 x5).f0.f3) ((rd_T131 x263002 x5).f0.f4) ((rd_T131 x264002 x5).f0.f0) ((rd_T131 x264002 x5).f0.f1) ((rd_T131 x264002 x5).f0.f2.f0) ((rd_T131 x264002 x5).f0.f2.f1) ((rd_T131 x264002 x5).f0.f2.f2) ((rd_T131 x264002 x5).f0.f3) ((rd_T131 x264002 x5).f0.f4)).bind fun t268 => (if t268 = true then (spec_SameShard.l0 k (wrap64 (x5 + 1)) x263000 x263001 x263002 x263003 x264000 x264001 x264002 x264003) else (some false)))) else (none)) else (none)) else (some true)
end
def spec_SameShard.f (k : Nat) (a0_0 : Int) (a0_1 : Int) (l0_2 : List (S131)) (a0_3 : Int) (a1_0 : Int) (a1_1 : Int) (l1_2 : List (S131)) (a1_3 : Int) : Option (Bool) := if a0_0 = a1_0 then (if a0_1 = a1_1 then (if a0_3 = a1_3 then (spec_SameShard.j0 k ((l0_2.length : Int) != (l1_2.length : Int)) a0_0 a0_1 l0_2 a0_3 a1_0 a1_1 l1_2 a1_3) else (spec_SameShard.j0 k true a0_0 a0_1 l0_2 a0_3 a1_0 a1_1 l1_2 a1_3)) else (spec_SameShard.j0 k true a0_0 a0_1 l0_2 a0_3 a1_0 a1_1 l1_2 a1_3)) else (spec_SameShard.j0 k true a0_0 a0_1 l0_2 a0_3 a1_0 a1_1 l1_2 a1_3)
theorem spec_SameShard.mono_l : ∀ k, (∀ y0 y1 y2 y3 y4 y5 y6 y7 y8, LeO (spec_SameShard.j0 k y0 y1 y2 y3 y4 y5 y6 y7 y8) (spec_SameShard.j0 (k + 1) y0 y1 y2 y3 y4 y5 y6 y7 y8)) ∧ (∀ y0 y1 y2 y3 y4 y5 y6 y7 y8, LeO (spec_SameShard.l0 k y0 y1 y2 y3 y4 y5 y6 y7 y8) (spec_SameShard.l0 (k + 1) y0 y1 y2 y3 y4 y5 y6 y7 y8))
  | 0 => ⟨fun _ _ _ _ _ _ _ _ _ r h => by simp [spec_SameShard.j0] at h, fun _ _ _ _ _ _ _ _ _ r h => by simp [spec_SameShard.l0] at h⟩
  | k + 1 => by
    obtain ⟨ih0, ih1⟩ := spec_SameShard.mono_l k
    refine ⟨?_, ?_⟩
    · intro y0 y1 y2 y3 y4 y5 y6 y7 y8
      unfold spec_SameShard.j0
      repeat' first
      | (with_reducible exact ih0 _ _ _ _ _ _ _ _ _)
      | (with_reducible exact ih1 _ _ _ _ _ _ _ _ _)
      | (with_reducible exact spec_l12SameItem.mono _ _ _ _ _ _ _ _ _ _ _ _ _ _ _)
      | (with_reducible exact LeO.refl _)
      | (with_reducible exact LeO.none _)
      | (with_reducible refine LeO.ite ?_ ?_)
      | (with_reducible refine LeO.bind ?_ (fun _ => ?_))
      | exact ih0 _ _ _ _ _ _ _ _ _
      | exact ih1 _ _ _ _ _ _ _ _ _
      | exact spec_l12SameItem.mono _ _ _ _ _ _ _ _ _ _ _ _ _ _ _
      | exact LeO.none _
      | refine LeO.ite ?_ ?_
      | refine LeO.bind ?_ (fun _ => ?_)
    · intro y0 y1 y2 y3 y4 y5 y6 y7 y8
      unfold spec_SameShard.l0
      repeat' first
      | (with_reducible exact ih0 _ _ _ _ _ _ _ _ _)
      | (with_reducible exact ih1 _ _ _ _ _ _ _ _ _)
      | (with_reducible exact spec_l12SameItem.mono _ _ _ _ _ _ _ _ _ _ _ _ _ _ _)
      | (with_reducible exact LeO.refl _)
      | (with_reducible exact LeO.none _)
      | (with_reducible refine LeO.ite ?_ ?_)
      | (with_reducible refine LeO.bind ?_ (fun _ => ?_))
      | exact ih0 _ _ _ _ _ _ _ _ _
      | exact ih1 _ _ _ _ _ _ _ _ _
      | exact spec_l12SameItem.mono _ _ _ _ _ _ _ _ _ _ _ _ _ _ _
      | exact LeO.none _
      | refine LeO.ite ?_ ?_
      | refine LeO.bind ?_ (fun _ => ?_)
theorem spec_SameShard.mono : ∀ a0 a1 a2 a3 a4 a5 a6 a7 k, LeO (spec_SameShard.f k a0 a1 a2 a3 a4 a5 a6 a7) (spec_SameShard.f (k + 1) a0 a1 a2 a3 a4 a5 a6 a7) := by
  intro a0 a1 a2 a3 a4 a5 a6 a7 k
  obtain ⟨ih0, ih1⟩ := spec_SameShard.mono_l k
  unfold spec_SameShard.f
  repeat' first
      | (with_reducible exact ih0 _ _ _ _ _ _ _ _ _)
      | (with_reducible exact ih1 _ _ _ _ _ _ _ _ _)
      | (with_reducible exact spec_l12SameItem.mono _ _ _ _ _ _ _ _ _ _ _ _ _ _ _)
      | (with_reducible exact LeO.refl _)
      | (with_reducible exact LeO.none _)
      | (with_reducible refine LeO.ite ?_ ?_)
      | (with_reducible refine LeO.bind ?_ (fun _ => ?_))
      | exact ih0 _ _ _ _ _ _ _ _ _
      | exact ih1 _ _ _ _ _ _ _ _ _
      | exact spec_l12SameItem.mono _ _ _ _ _ _ _ _ _ _ _ _ _ _ _
      | exact LeO.none _
      | refine LeO.ite ?_ ?_
      | refine LeO.bind ?_ (fun _ => ?_)
def spec_SameShard.T6 : Bool × List (List Nat × List Nat) := (true, [([], []), ([0], [0]), ([], []), ([1, 2], [1, 2]), ([3], [3]), ([4], [4]), ([], []), ([6], [6]), ([], []), ([7, 8], [7, 8]), ([9], [9]), ([10], [10]), ([5, 11], [5, 11]), ([12], [12]), ([13], [13]), ([14, 13], [13, 14]), ([13], [13]), ([15, 16, 13], [13, 15, 16]), ([17, 13], [13, 17]), ([18, 13], [13, 18]), ([13], [13]), ([20, 13], [13, 20]), ([13], [13]), ([21, 22, 13], [13, 21, 22]), ([23, 13], [13, 23]), ([24, 13], [13, 24]), ([19, 25, 13, 13], [13, 19, 25]), ([26, 13], [13, 26]), ([13, 27], [13, 27])])
def spec_SameShard.B6 : List Nat := [0, 1, 0, 7, 15, 31, 0, 64, 0, 448, 960, 1984, 4095, 8191, 16383, 32767, 16383, 131071, 262143, 524287, 16383, 1064959, 16383, 7356415, 15745023, 32522239, 67108863, 134217727, 268435455]
theorem spec_SameShard.tab6 : rtab .any (opsOf Try.f79 6) = spec_SameShard.T6 := by kernel_rfl
theorem spec_SameShard.bits6 : waitsOk spec_SameShard.T6.2 spec_SameShard.B6 = true := by kernel_rfl
set_option maxHeartbeats 8000000 in
set_option maxRecDepth 100000 in
theorem spec_SameShard.calls (k : Nat) (a0_0 : Int) (a0_1 : Int) (A0_2 : Option Addr) (c0_2 : Nat) (l0_2 : List (S131)) (a0_3 : Int) (a1_0 : Int) (a1_1 : Int) (A1_2 : Option Addr) (c1_2 : Nat) (l1_2 : List (S131)) (a1_3 : Int) (r : Bool) (w : World) (hr0_2 : Kd.C k131 w A0_2 l0_2.length l0_2) (hc0_2 : l0_2.length ≤ c0_2) (hr1_2 : Kd.C k131 w A1_2 l1_2.length l1_2) (hc1_2 : l1_2.length ≤ c1_2) (h : spec_SameShard.f k a0_0 a0_1 l0_2 a0_3 a1_0 a1_1 l1_2 a1_3 = some r) :
    Calls Try.prog 79 #[.agg #[.int .i64 a0_0, .int .i64 a0_1, .slice A0_2 l0_2.length c0_2, .int .i64 a0_3], .agg #[.int .i64 a1_0, .int .i64 a1_1, .slice A1_2 l1_2.length c1_2, .int .i64 a1_3]] w fun e w' => e = .returned (.bool r) ∧ Below w.heap.size w w' := by
  have hu97 := Try.underlying97
  have hu28 := Try.underlying28
  have HR0_2 := Aside0.mk hr0_2
  have HC0_2 := Aside0.mk hc0_2
  clear hr0_2 hc0_2
  have HR1_2 := Aside0.mk hr1_2
  have HC1_2 := Aside0.mk hc1_2
  clear hr1_2 hc1_2
  have HB := Aside0.mk (Below.refl w.heap.size w)
  have H : (if a0_0 = a1_0 then (if a0_1 = a1_1 then (if a0_3 = a1_3 then (spec_SameShard.j0 k ((l0_2.length : Int) != (l1_2.length : Int)) a0_0 a0_1 l0_2 a0_3 a1_0 a1_1 l1_2 a1_3) else (spec_SameShard.j0 k true a0_0 a0_1 l0_2 a0_3 a1_0 a1_1 l1_2 a1_3)) else (spec_SameShard.j0 k true a0_0 a0_1 l0_2 a0_3 a1_0 a1_1 l1_2 a1_3)) else (spec_SameShard.j0 k true a0_0 a0_1 l0_2 a0_3 a1_0 a1_1 l1_2 a1_3)) = some r := h
  clear h
  have HC3 := Aside0.mk H
  clear H
  go_enter Try.func79, Try.ntmps79
  go_upto_region 1 with (first | ((with_reducible refine gate_dst (N := 2) rfl ?_); (try (refine gate_guard (by rfl) ?_; dsimp only)); refine box_event ?hg (N := 2) ?hd (cs := #[.int .i64 a0_0, .int .i64 a0_1, .slice A0_2 l0_2.length c0_2, .int .i64 a0_3]) (t := 97) ?hr ?_; (case hd => rfl); (case hg => rfl); (case hr => exact Kit.hr); intro gb262 hg w4 hbox hb; have BK262 := Aside0.mk (hbox); have GW262 := Kit.gX (w := w) hg; have GE262 := GW262; replace HB := Kit.hB hb; clear hb hbox hg) | ((with_reducible refine gate_dst (N := 3) rfl ?_); (try (refine gate_guard (by rfl) ?_; dsimp only)); refine box_event ?hg (N := 3) ?hd (cs := #[.int .i64 a1_0, .int .i64 a1_1, .slice A1_2 l1_2.length c1_2, .int .i64 a1_3]) (t := 97) ?hr ?_; (case hd => rfl); (case hg => rfl); (case hr => exact Kit.hr); intro gb263 hg w5 hbox hb; have BK263 := Aside0.mk (hbox); have GW263 := Kit.gX (w := w) hg; have GE263 := GW263; replace HB := Kit.hB hb; have NB262_263 := Aside0.mk (Kit.nlt hg BK262.out); have NB263_262 := Aside0.mk (Kit.ngt hg BK262.out); replace BK262 := Kit.bB BK262 hb; clear hb hbox hg))
  (try simp only [Act.put, List.setIfInBounds_toArray, List.set_cons_zero, List.set_cons_succ])
  go_cut [33] (fun v33 wc => ∃ (kq : Nat) (x33_2 : Bool), v33 = .bool x33_2 ∧ Aside0 (spec_SameShard.j0 kq x33_2 a0_0 a0_1 l0_2 a0_3 a1_0 a1_1 l1_2 a1_3 = some r) ∧ Aside0 (kq ≤ k) ∧ Aside0 (wc.heap[gb262]? = some (.cells #[.int .i64 a0_0, .int .i64 a0_1, (.slice A0_2 l0_2.length c0_2), .int .i64 a0_3] 97 (0, 0))) ∧ Aside0 (wc.heap[gb263]? = some (.cells #[.int .i64 a1_0, .int .i64 a1_1, (.slice A1_2 l1_2.length c1_2), .int .i64 a1_3] 97 (0, 0))) ∧ Aside0 (Below w.heap.size w wc))
  case first =>
    have H := HC3.out
    clear HC3
    by_cases c6 : a0_0 = a1_0
    · rw [if_pos c6] at H
      have c6b0 : (a0_0 == a1_0) = true := beq_iff_eq.mpr c6
      have c6b1 : (a0_0 != a1_0) = false := bne_eq_false_iff_eq.mpr c6
      clear c6
      (first | rw [c6b0] | (simp only [i64_w, i32_w]; rw [c6b0]) | skip)
      by_cases c7 : a0_1 = a1_1
      · rw [if_pos c7] at H
        have c7b0 : (a0_1 == a1_1) = true := beq_iff_eq.mpr c7
        have c7b1 : (a0_1 != a1_1) = false := bne_eq_false_iff_eq.mpr c7
        clear c7
        by_cases c8 : a0_3 = a1_3
        · rw [if_pos c8] at H
          have c8b0 : (a0_3 == a1_3) = true := beq_iff_eq.mpr c8
          have c8b1 : (a0_3 != a1_3) = false := bne_eq_false_iff_eq.mpr c8
          clear c8
          have H' := Aside0.mk H
          clear H
          have hnb9 := NB262_263.out
          have hnc9 := NB263_262.out
          obtain ⟨hcz10_0, hcz10_1, hcz10_2, hcz10_3, hfz10_0, hfz10_1, hfz10_2, hfz10_3⟩ := Kit.c4 BK262.out
          obtain ⟨hcz11_0, hcz11_1, hcz11_2, hcz11_3, hfz11_0, hfz11_1, hfz11_2, hfz11_3⟩ := Kit.c4 BK263.out
          go_wp2
          go_meet
          case rel => exact ⟨_, (((l0_2.length : Int) != (l1_2.length : Int))), (by first | rfl | (simp; done) | (simp [*]; done)), H', ⟨by first | omega | exact Nat.le_refl _⟩, ⟨by (with_reducible repeat (first | refine blk_drewN ?_ _ | refine blk_drew ?_ | refine blk_alloc ?_ _)); exact BK262.out⟩, ⟨by (with_reducible repeat (first | refine blk_drewN ?_ _ | refine blk_drew ?_ | refine blk_alloc ?_ _)); exact BK263.out⟩, ⟨Kit.bl⟩⟩
        · rw [if_neg c8] at H
          have c8b0 : (a0_3 == a1_3) = false := beq_eq_false_iff_ne.mpr c8
          have c8b1 : (a0_3 != a1_3) = true := bne_iff_ne.mpr c8
          have H' := Aside0.mk H
          clear H
          have hnb12 := NB262_263.out
          have hnc12 := NB263_262.out
          obtain ⟨hcz13_0, hcz13_1, hcz13_2, hcz13_3, hfz13_0, hfz13_1, hfz13_2, hfz13_3⟩ := Kit.c4 BK262.out
          obtain ⟨hcz14_0, hcz14_1, hcz14_2, hcz14_3, hfz14_0, hfz14_1, hfz14_2, hfz14_3⟩ := Kit.c4 BK263.out
          go_wp2
          go_meet
          case rel => exact ⟨_, (true), (by first | rfl | (simp; done) | (simp [*]; done)), H', ⟨by first | omega | exact Nat.le_refl _⟩, ⟨by (with_reducible repeat (first | refine blk_drewN ?_ _ | refine blk_drew ?_ | refine blk_alloc ?_ _)); exact BK262.out⟩, ⟨by (with_reducible repeat (first | refine blk_drewN ?_ _ | refine blk_drew ?_ | refine blk_alloc ?_ _)); exact BK263.out⟩, ⟨Kit.bl⟩⟩
      · rw [if_neg c7] at H
        have c7b0 : (a0_1 == a1_1) = false := beq_eq_false_iff_ne.mpr c7
        have c7b1 : (a0_1 != a1_1) = true := bne_iff_ne.mpr c7
        have H' := Aside0.mk H
        clear H
        have hnb15 := NB262_263.out
        have hnc15 := NB263_262.out
        obtain ⟨hcz16_0, hcz16_1, hcz16_2, hcz16_3, hfz16_0, hfz16_1, hfz16_2, hfz16_3⟩ := Kit.c4 BK262.out
        obtain ⟨hcz17_0, hcz17_1, hcz17_2, hcz17_3, hfz17_0, hfz17_1, hfz17_2, hfz17_3⟩ := Kit.c4 BK263.out
        go_wp2
        go_meet
        case rel => exact ⟨_, (true), (by first | rfl | (simp; done) | (simp [*]; done)), H', ⟨by first | omega | exact Nat.le_refl _⟩, ⟨by (with_reducible repeat (first | refine blk_drewN ?_ _ | refine blk_drew ?_ | refine blk_alloc ?_ _)); exact BK262.out⟩, ⟨by (with_reducible repeat (first | refine blk_drewN ?_ _ | refine blk_drew ?_ | refine blk_alloc ?_ _)); exact BK263.out⟩, ⟨Kit.bl⟩⟩
    · rw [if_neg c6] at H
      have c6b0 : (a0_0 == a1_0) = false := beq_eq_false_iff_ne.mpr c6
      have c6b1 : (a0_0 != a1_0) = true := bne_iff_ne.mpr c6
      (first | rw [c6b0] | (simp only [i64_w, i32_w]; rw [c6b0]) | skip)
      have H' := Aside0.mk H
      clear H
      have hnb18 := NB262_263.out
      have hnc18 := NB263_262.out
      obtain ⟨hcz19_0, hcz19_1, hcz19_2, hcz19_3, hfz19_0, hfz19_1, hfz19_2, hfz19_3⟩ := Kit.c4 BK262.out
      obtain ⟨hcz20_0, hcz20_1, hcz20_2, hcz20_3, hfz20_0, hfz20_1, hfz20_2, hfz20_3⟩ := Kit.c4 BK263.out
      go_wp2
      go_meet
      case rel => exact ⟨_, (true), (by first | rfl | (simp; done) | (simp [*]; done)), H', ⟨by first | omega | exact Nat.le_refl _⟩, ⟨by (with_reducible repeat (first | refine blk_drewN ?_ _ | refine blk_drew ?_ | refine blk_alloc ?_ _)); exact BK262.out⟩, ⟨by (with_reducible repeat (first | refine blk_drewN ?_ _ | refine blk_drew ?_ | refine blk_alloc ?_ _)); exact BK263.out⟩, ⟨Kit.bl⟩⟩
  case rest =>
    clear HC3
    try clear c1
    try clear p2
    try clear c6
    try clear c6b0
    try clear c6b1
    try clear c7
    try clear c7b0
    try clear c7b1
    try clear c8
    try clear c8b0
    try clear c8b1
    try clear c9
    try clear c12
    try clear c15
    try clear c18
    try clear hcz10_0
    try clear hcz10_1
    try clear hcz10_2
    try clear hcz10_3
    try clear hcz11_0
    try clear hcz11_1
    try clear hcz11_2
    try clear hcz11_3
    try clear hcz13_0
    try clear hcz13_1
    try clear hcz13_2
    try clear hcz13_3
    try clear hcz14_0
    try clear hcz14_1
    try clear hcz14_2
    try clear hcz14_3
    try clear hcz16_0
    try clear hcz16_1
    try clear hcz16_2
    try clear hcz16_3
    try clear hcz17_0
    try clear hcz17_1
    try clear hcz17_2
    try clear hcz17_3
    try clear hcz19_0
    try clear hcz19_1
    try clear hcz19_2
    try clear hcz19_3
    try clear hcz20_0
    try clear hcz20_1
    try clear hcz20_2
    try clear hcz20_3
    try clear hfz10_0
    try clear hfz10_1
    try clear hfz10_2
    try clear hfz10_3
    try clear hfz11_0
    try clear hfz11_1
    try clear hfz11_2
    try clear hfz11_3
    try clear hfz13_0
    try clear hfz13_1
    try clear hfz13_2
    try clear hfz13_3
    try clear hfz14_0
    try clear hfz14_1
    try clear hfz14_2
    try clear hfz14_3
    try clear hfz16_0
    try clear hfz16_1
    try clear hfz16_2
    try clear hfz16_3
    try clear hfz17_0
    try clear hfz17_1
    try clear hfz17_2
    try clear hfz17_3
    try clear hfz19_0
    try clear hfz19_1
    try clear hfz19_2
    try clear hfz19_3
    try clear hfz20_0
    try clear hfz20_1
    try clear hfz20_2
    try clear hfz20_3
    obtain ⟨kq, x33_2, rfl, HA, HJ2, BK262, BK263, HB⟩ := hcut
    cases kq with
    | zero => exact absurd HA.out (by simp [spec_SameShard.j0])
    | succ kj2 =>
      have H := HA.out
      clear HA
      simp only [spec_SameShard.j0] at H
      by_cases c21 : x33_2 = true
      · subst c21
        have H1 : (some false) = some r := by rw [if_pos rfl] at H; exact H
        clear H
        have H := H1
        clear H1
        obtain rfl := Option.some.inj H
        go_wp2
        go_ret
        exact ⟨Kit.er, Kit.bl⟩
      · replace c21 := Bool.eq_false_iff.mpr c21
        subst c21
        have H1 : (spec_SameShard.l0 kj2 0 a0_0 a0_1 l0_2 a0_3 a1_0 a1_1 l1_2 a1_3) = some r := by rw [if_neg (show ¬ (false = true) by decide)] at H; exact H
        clear H
        have H := H1
        clear H1
        have H' := Aside0.mk H
        clear H
        go_wp2
        go_loopg [5] kj2 (fun kq v5 w' => ∃ (x5_2 : Int), v5 = .int .i64 x5_2 ∧ Aside0 (spec_SameShard.l0 kq x5_2 a0_0 a0_1 l0_2 a0_3 a1_0 a1_1 l1_2 a1_3 = some r) ∧ Aside0 (kq ≤ kj2) ∧ Aside0 (w'.heap[gb262]? = some (.cells #[.int .i64 a0_0, .int .i64 a0_1, (.slice A0_2 l0_2.length c0_2), .int .i64 a0_3] 97 (0, 0))) ∧ Aside0 (w'.heap[gb263]? = some (.cells #[.int .i64 a1_0, .int .i64 a1_1, (.slice A1_2 l1_2.length c1_2), .int .i64 a1_3] 97 (0, 0))) ∧ Aside0 (Below w.heap.size w w'))
        case atStart => exact ⟨(0), (by first | rfl | (simp; done) | (simp [*]; done)), H', ⟨Nat.le_refl _⟩, ⟨by (with_reducible repeat (first | refine blk_drewN ?_ _ | refine blk_drew ?_ | refine blk_alloc ?_ _)); exact BK262.out⟩, ⟨by (with_reducible repeat (first | refine blk_drewN ?_ _ | refine blk_drew ?_ | refine blk_alloc ?_ _)); exact BK263.out⟩, ⟨Kit.bl⟩⟩
        case round =>
          clear H'
          try clear c1
          try clear c2
          try clear p2
          try clear c6
          try clear c6b0
          try clear c6b1
          try clear c7
          try clear c7b0
          try clear c7b1
          try clear c8
          try clear c8b0
          try clear c8b1
          try clear c9
          try clear c12
          try clear c15
          try clear c18
          try clear c21
          try clear hcz10_0
          try clear hcz10_1
          try clear hcz10_2
          try clear hcz10_3
          try clear hcz11_0
          try clear hcz11_1
          try clear hcz11_2
          try clear hcz11_3
          try clear hcz13_0
          try clear hcz13_1
          try clear hcz13_2
          try clear hcz13_3
          try clear hcz14_0
          try clear hcz14_1
          try clear hcz14_2
          try clear hcz14_3
          try clear hcz16_0
          try clear hcz16_1
          try clear hcz16_2
          try clear hcz16_3
          try clear hcz17_0
          try clear hcz17_1
          try clear hcz17_2
          try clear hcz17_3
          try clear hcz19_0
          try clear hcz19_1
          try clear hcz19_2
          try clear hcz19_3
          try clear hcz20_0
          try clear hcz20_1
          try clear hcz20_2
          try clear hcz20_3
          try clear hfz10_0
          try clear hfz10_1
          try clear hfz10_2
          try clear hfz10_3
          try clear hfz11_0
          try clear hfz11_1
          try clear hfz11_2
          try clear hfz11_3
          try clear hfz13_0
          try clear hfz13_1
          try clear hfz13_2
          try clear hfz13_3
          try clear hfz14_0
          try clear hfz14_1
          try clear hfz14_2
          try clear hfz14_3
          try clear hfz16_0
          try clear hfz16_1
          try clear hfz16_2
          try clear hfz16_3
          try clear hfz17_0
          try clear hfz17_1
          try clear hfz17_2
          try clear hfz17_3
          try clear hfz19_0
          try clear hfz19_1
          try clear hfz19_2
          try clear hfz19_3
          try clear hfz20_0
          try clear hfz20_1
          try clear hfz20_2
          try clear hfz20_3
          try clear p2
          obtain ⟨x5_2, rfl, HA, HK2, BK262, BK263, HB⟩ := hrel
          cases gk with
          | zero => exact absurd HA.out (by simp [spec_SameShard.l0])
          | succ k2 =>
            have H := HA.out
            clear HA
            simp only [spec_SameShard.l0] at H
            by_cases c22 : x5_2 < (l0_2.length : Int)
            · rw [if_pos c22] at H
              have c22b0 : decide (x5_2 < (l0_2.length : Int)) = true := decide_eq_true c22
              clear c22
              by_cases c23 : 0 ≤ x5_2
              · rw [if_pos c23] at H
                have c23b0 : decide (0 ≤ x5_2) = true := decide_eq_true c23
                clear c23
                by_cases c24 : x5_2 < (l1_2.length : Int)
                · rw [if_pos c24] at H
                  have c24b0 : decide (x5_2 < (l1_2.length : Int)) = true := decide_eq_true c24
                  clear c24
                  by_cases c25 : (((rd_T131 l0_2 x5_2).f1) != ((rd_T131 l1_2 x5_2).f1)) = true
                  · rw [if_pos c25] at H
                    have c25b0 : (((rd_T131 l0_2 x5_2).f1) != ((rd_T131 l1_2 x5_2).f1)) = true := c25
                    (try (have c25b1 : decide (((rd_T131 l0_2 x5_2).f1) = ((rd_T131 l1_2 x5_2).f1)) = false := by simpa using c25))
                    (try (have c25b2 : (((rd_T131 l0_2 x5_2).f1) == ((rd_T131 l1_2 x5_2).f1)) = false := by simpa using c25))
                    (try (have c25b3 : ¬ (((rd_T131 l0_2 x5_2).f1) = ((rd_T131 l1_2 x5_2).f1)) := by simpa using c25))
                    clear c25
                    obtain rfl := Option.some.inj H
                    have hnb26 := NB262_263.out
                    have hnc26 := NB263_262.out
                    have hcz27_0 : wr.cell? ⟨gb262, 0, none⟩ = some (.int .i64 a0_0) := (blk_cell BK262.out 0).trans rfl
                    have hcz27_1 : wr.cell? ⟨gb262, 1, none⟩ = some (.int .i64 a0_1) := (blk_cell BK262.out 1).trans rfl
                    have hcz27_2 : wr.cell? ⟨gb262, 2, none⟩ = some (.slice A0_2 l0_2.length c0_2) := (blk_cell BK262.out 2).trans rfl
                    have hcz27_3 : wr.cell? ⟨gb262, 3, none⟩ = some (.int .i64 a0_3) := (blk_cell BK262.out 3).trans rfl
                    have hfz27_0 := blk_frozen BK262.out 0
                    have hfz27_1 := blk_frozen BK262.out 1
                    have hfz27_2 := blk_frozen BK262.out 2
                    have hfz27_3 := blk_frozen BK262.out 3
                    try go_wp2
                    replace BK262 := Aside0.mk (blk_drew BK262.out)
                    replace BK263 := Aside0.mk (blk_drew BK263.out)
                    replace HB := Aside0.mk (below_drew1 HB.out)
                    have p264 : 0 ≤ (x5_2 : Int) := of_decide_eq_true Kit.asm
                    have q264 : x5_2 < (l0_2.length : Int) := of_decide_eq_true Kit.asm
                    obtain ⟨ad264, A264_1, c264_1, A264_3, c264_3, e264, hx264_0, hx264_1, hx264_2, hx264_3, hx264_4, hx264_5, hx264_6, hx264_7, hl264_1, hi264_1, hl264_3, hi264_3⟩ := at_T131 HR0_2.out x5_2 p264 q264
                    have hw264_7 := hx264_7
                    have hw264_6 := hx264_6
                    have hw264_5 := hx264_5
                    have hw264_4 := hx264_4
                    have hw264_3 := hx264_3
                    have hw264_2 := hx264_2
                    have hw264_1 := hx264_1
                    have hw264_0 := hx264_0
                    cases e264
                    replace hx264_0 := Kit.hx HB.out hx264_0
                    replace hx264_1 := Kit.hx HB.out hx264_1
                    replace hx264_2 := Kit.hx HB.out hx264_2
                    replace hx264_3 := Kit.hx HB.out hx264_3
                    replace hx264_4 := Kit.hx HB.out hx264_4
                    replace hx264_5 := Kit.hx HB.out hx264_5
                    replace hx264_6 := Kit.hx HB.out hx264_6
                    replace hx264_7 := Kit.hx HB.out hx264_7
                    have HR264_1 := Aside0.mk hi264_1
                    have HC264_1 := Aside0.mk hl264_1
                    clear hi264_1 hl264_1
                    have HR264_3 := Aside0.mk hi264_3
                    have HC264_3 := Aside0.mk hl264_3
                    clear hi264_3 hl264_3
                    replace p264 := eq_true p264
                    replace q264 := eq_true q264
                    have p265 : 0 ≤ (x5_2 : Int) := of_decide_eq_true Kit.asm
                    have q265 : x5_2 < (l1_2.length : Int) := of_decide_eq_true Kit.asm
                    obtain ⟨ad265, A265_1, c265_1, A265_3, c265_3, e265, hx265_0, hx265_1, hx265_2, hx265_3, hx265_4, hx265_5, hx265_6, hx265_7, hl265_1, hi265_1, hl265_3, hi265_3⟩ := at_T131 HR1_2.out x5_2 p265 q265
                    have hw265_7 := hx265_7
                    have hw265_6 := hx265_6
                    have hw265_5 := hx265_5
                    have hw265_4 := hx265_4
                    have hw265_3 := hx265_3
                    have hw265_2 := hx265_2
                    have hw265_1 := hx265_1
                    have hw265_0 := hx265_0
                    cases e265
                    replace hx265_0 := Kit.hx HB.out hx265_0
                    replace hx265_1 := Kit.hx HB.out hx265_1
                    replace hx265_2 := Kit.hx HB.out hx265_2
                    replace hx265_3 := Kit.hx HB.out hx265_3
                    replace hx265_4 := Kit.hx HB.out hx265_4
                    replace hx265_5 := Kit.hx HB.out hx265_5
                    replace hx265_6 := Kit.hx HB.out hx265_6
                    replace hx265_7 := Kit.hx HB.out hx265_7
                    have HR265_1 := Aside0.mk hi265_1
                    have HC265_1 := Aside0.mk hl265_1
                    clear hi265_1 hl265_1
                    have HR265_3 := Aside0.mk hi265_3
                    have HC265_3 := Aside0.mk hl265_3
                    clear hi265_3 hl265_3
                    replace p265 := eq_true p265
                    replace q265 := eq_true q265
                    refine start_ (n := 29) (S := fun w' => w'.cell? ⟨gb262, 0, none⟩ = some (.int .i64 a0_0) ∧ w'.cell? ⟨gb262, 1, none⟩ = some (.int .i64 a0_1) ∧ w'.cell? ⟨gb262, 2, none⟩ = some (.slice (some ad264) l0_2.length c0_2) ∧ w'.cell? ⟨gb262, 3, none⟩ = some (.int .i64 a0_3) ∧ w'.cell? ⟨gb263, 0, none⟩ = some (.int .i64 a1_0) ∧ w'.cell? ⟨gb263, 1, none⟩ = some (.int .i64 a1_1) ∧ w'.cell? ⟨gb263, 2, none⟩ = some (.slice (some ad265) l1_2.length c1_2) ∧ w'.cell? ⟨gb263, 3, none⟩ = some (.int .i64 a1_3) ∧ w'.cell? (ad264.add ((x5_2).toNat * 8)) = some (.string ((rd_T131 l0_2 x5_2).f0.f0)) ∧ w'.cell? ⟨(ad264.add ((x5_2).toNat * 8)).block, (ad264.add ((x5_2).toNat * 8)).off + 1, none⟩ = some (.slice A264_1 ((rd_T131 l0_2 x5_2).f0.f1).length c264_1) ∧ w'.cell? ⟨(ad264.add ((x5_2).toNat * 8)).block, (ad264.add ((x5_2).toNat * 8)).off + 2, none⟩ = some (.int .i64 ((rd_T131 l0_2 x5_2).f0.f2.f0)) ∧ w'.cell? ⟨(ad264.add ((x5_2).toNat * 8)).block, (ad264.add ((x5_2).toNat * 8)).off + 3, none⟩ = some (.slice A264_3 ((rd_T131 l0_2 x5_2).f0.f2.f1).length c264_3) ∧ w'.cell? ⟨(ad264.add ((x5_2).toNat * 8)).block, (ad264.add ((x5_2).toNat * 8)).off + 4, none⟩ = some (.string ((rd_T131 l0_2 x5_2).f0.f2.f2)) ∧ w'.cell? ⟨(ad264.add ((x5_2).toNat * 8)).block, (ad264.add ((x5_2).toNat * 8)).off + 5, none⟩ = some (.int .i64 ((rd_T131 l0_2 x5_2).f0.f3)) ∧ w'.cell? ⟨(ad264.add ((x5_2).toNat * 8)).block, (ad264.add ((x5_2).toNat * 8)).off + 6, none⟩ = some (.int .i64 ((rd_T131 l0_2 x5_2).f0.f4)) ∧ w'.cell? ⟨(ad264.add ((x5_2).toNat * 8)).block, (ad264.add ((x5_2).toNat * 8)).off + 7, none⟩ = some (.bool ((rd_T131 l0_2 x5_2).f1)) ∧ w'.cell? (ad265.add ((x5_2).toNat * 8)) = some (.string ((rd_T131 l1_2 x5_2).f0.f0)) ∧ w'.cell? ⟨(ad265.add ((x5_2).toNat * 8)).block, (ad265.add ((x5_2).toNat * 8)).off + 1, none⟩ = some (.slice A265_1 ((rd_T131 l1_2 x5_2).f0.f1).length c265_1) ∧ w'.cell? ⟨(ad265.add ((x5_2).toNat * 8)).block, (ad265.add ((x5_2).toNat * 8)).off + 2, none⟩ = some (.int .i64 ((rd_T131 l1_2 x5_2).f0.f2.f0)) ∧ w'.cell? ⟨(ad265.add ((x5_2).toNat * 8)).block, (ad265.add ((x5_2).toNat * 8)).off + 3, none⟩ = some (.slice A265_3 ((rd_T131 l1_2 x5_2).f0.f2.f1).length c265_3) ∧ w'.cell? ⟨(ad265.add ((x5_2).toNat * 8)).block, (ad265.add ((x5_2).toNat * 8)).off + 4, none⟩ = some (.string ((rd_T131 l1_2 x5_2).f0.f2.f2)) ∧ w'.cell? ⟨(ad265.add ((x5_2).toNat * 8)).block, (ad265.add ((x5_2).toNat * 8)).off + 5, none⟩ = some (.int .i64 ((rd_T131 l1_2 x5_2).f0.f3)) ∧ w'.cell? ⟨(ad265.add ((x5_2).toNat * 8)).block, (ad265.add ((x5_2).toNat * 8)).off + 6, none⟩ = some (.int .i64 ((rd_T131 l1_2 x5_2).f0.f4)) ∧ w'.cell? ⟨(ad265.add ((x5_2).toNat * 8)).block, (ad265.add ((x5_2).toNat * 8)).off + 7, none⟩ = some (.bool ((rd_T131 l1_2 x5_2).f1))) (ds := []) #[false, false, false, false, false, false, false, false, false, false, false, false, false, false, false, false, false, false, false, false, false, false, false, false, false, false, false, false, false] (by kernel_rfl) rfl rfl ⟨(blk_cell BK262.out 0).trans rfl, (blk_cell BK262.out 1).trans rfl, (blk_cell BK262.out 2).trans rfl, (blk_cell BK262.out 3).trans rfl, (blk_cell BK263.out 0).trans rfl, (blk_cell BK263.out 1).trans rfl, (blk_cell BK263.out 2).trans rfl, (blk_cell BK263.out 3).trans rfl, (Kit.hx HB.out hw264_0), (Kit.hx HB.out hw264_1), (Kit.hx HB.out hw264_2), (Kit.hx HB.out hw264_3), (Kit.hx HB.out hw264_4), (Kit.hx HB.out hw264_5), (Kit.hx HB.out hw264_6), (Kit.hx HB.out hw264_7), (Kit.hx HB.out hw265_0), (Kit.hx HB.out hw265_1), (Kit.hx HB.out hw265_2), (Kit.hx HB.out hw265_3), (Kit.hx HB.out hw265_4), (Kit.hx HB.out hw265_5), (Kit.hx HB.out hw265_6), (Kit.hx HB.out hw265_7)⟩ (fun hHeld => ?_); refine with_tabW spec_SameShard.tab6 spec_SameShard.bits6 (fun HT_ HW_ => ?_)
                    generalize wr.drew = w28 at BK262 BK263 HB HR264_1 HR264_3 HR265_1 HR265_3 hx264_0 hx264_1 hx264_2 hx264_3 hx264_4 hx264_5 hx264_6 hx264_7 hx265_0 hx265_1 hx265_2 hx265_3 hx265_4 hx265_5 hx265_6 hx265_7 hHeld ⊢
                    refine pure_ (i := 0) (N := some 41) (v := ?_) (a' := ?_) #[true, false, false, false, false, false, false, false, false, false, false, false, false, false, false, false, false, false, false, false, false, false, false, false, false, false, false, false, false] rfl rfl (any_of HT_.out (by kernel_rfl)) (fun _ _ _ h => h) (Or.inl ⟨by rfl, ?_⟩) ?_ ?_
                    rotate_left
                    · intro w'
                      go_simp
                      with_reducible rfl
                    rotate_left
                    · simp only [Act.put, List.setIfInBounds_toArray, List.set_cons_zero, List.set_cons_succ, i64_w, i32_w]
                      rfl
                    refine pure_ (i := 2) (N := some 43) (v := ?_) (a' := ?_) #[true, false, true, false, false, false, false, false, false, false, false, false, false, false, false, false, false, false, false, false, false, false, false, false, false, false, false, false, false] rfl rfl (any_of HT_.out (by kernel_rfl)) (fun _ _ _ h => h) (Or.inl ⟨by rfl, ?_⟩) ?_ ?_
                    rotate_left
                    · intro w'
                      go_simp
                      with_reducible rfl
                    rotate_left
                    · simp only [Act.put, List.setIfInBounds_toArray, List.set_cons_zero, List.set_cons_succ, i64_w, i32_w]
                      rfl
                    refine pure_ (i := 6) (N := some 47) (v := ?_) (a' := ?_) #[true, false, true, false, false, false, true, false, false, false, false, false, false, false, false, false, false, false, false, false, false, false, false, false, false, false, false, false, false] rfl rfl (any_of HT_.out (by kernel_rfl)) (fun _ _ _ h => h) (Or.inl ⟨by rfl, ?_⟩) ?_ ?_
                    rotate_left
                    · intro w'
                      go_simp
                      with_reducible rfl
                    rotate_left
                    · simp only [Act.put, List.setIfInBounds_toArray, List.set_cons_zero, List.set_cons_succ, i64_w, i32_w]
                      rfl
                    refine pure_ (i := 8) (N := some 49) (v := ?_) (a' := ?_) #[true, false, true, false, false, false, true, false, true, false, false, false, false, false, false, false, false, false, false, false, false, false, false, false, false, false, false, false, false] rfl rfl (any_of HT_.out (by kernel_rfl)) (fun _ _ _ h => h) (Or.inl ⟨by rfl, ?_⟩) ?_ ?_
                    rotate_left
                    · intro w'
                      go_simp
                      with_reducible rfl
                    rotate_left
                    · simp only [Act.put, List.setIfInBounds_toArray, List.set_cons_zero, List.set_cons_succ, i64_w, i32_w]
                      rfl
                    refine take_ (i := 1) (N := some 42) (v := ?_) (a' := ?_) #[true, true, true, false, false, false, true, false, true, false, false, false, false, false, false, false, false, false, false, false, false, false, false, false, false, false, false, false, false] rfl rfl (take_ofW HT_.out HW_.out (by kernel_rfl)) (fun _ _ _ h => h) (Or.inl ⟨by rfl, ?_⟩) hHeld ?_ ?_
                    rotate_left
                    · rintro w' ⟨s0, s1, s2, s3, s4, s5, s6, s7, s8, s9, s10, s11, s12, s13, s14, s15, s16, s17, s18, s19, s20, s21, s22, s23⟩
                      go_simp
                      with_reducible rfl
                    rotate_left
                    · simp only [Act.put, List.setIfInBounds_toArray, List.set_cons_zero, List.set_cons_succ, i64_w, i32_w]
                      rfl
                    refine pure_ (i := 3) (N := some 44) (v := ?_) (a' := ?_) #[true, true, true, true, false, false, true, false, true, false, false, false, false, false, false, false, false, false, false, false, false, false, false, false, false, false, false, false, false] rfl rfl (any_of HT_.out (by kernel_rfl)) (fun _ _ _ h => h) (Or.inl ⟨by rfl, ?_⟩) ?_ ?_
                    rotate_left
                    · intro w'
                      go_simp
                      with_reducible rfl
                    rotate_left
                    · simp only [Act.put, List.setIfInBounds_toArray, List.set_cons_zero, List.set_cons_succ, i64_w, i32_w]
                      rfl
                    refine pure_ (i := 4) (N := some 45) (v := ?_) (a' := ?_) #[true, true, true, true, true, false, true, false, true, false, false, false, false, false, false, false, false, false, false, false, false, false, false, false, false, false, false, false, false] rfl rfl (any_of HT_.out (by kernel_rfl)) (fun _ _ _ h => h) (Or.inl ⟨by rfl, ?_⟩) ?_ ?_
                    rotate_left
                    · intro w'
                      go_simp
                      with_reducible rfl
                    rotate_left
                    · simp only [Act.put, List.setIfInBounds_toArray, List.set_cons_zero, List.set_cons_succ, i64_w, i32_w]
                      rfl
                    refine take_ (i := 5) (N := some 46) (v := ?_) (a' := ?_) #[true, true, true, true, true, true, true, false, true, false, false, false, false, false, false, false, false, false, false, false, false, false, false, false, false, false, false, false, false] rfl rfl (take_ofW HT_.out HW_.out (by kernel_rfl)) (fun _ _ _ h => h) (Or.inl ⟨by rfl, ?_⟩) hHeld ?_ ?_
                    rotate_left
                    · rintro w' ⟨s0, s1, s2, s3, s4, s5, s6, s7, s8, s9, s10, s11, s12, s13, s14, s15, s16, s17, s18, s19, s20, s21, s22, s23⟩
                      go_simp
                      with_reducible rfl
                    rotate_left
                    · simp only [Act.put, List.setIfInBounds_toArray, List.set_cons_zero, List.set_cons_succ, i64_w, i32_w]
                      rfl
                    refine take_ (i := 7) (N := some 48) (v := ?_) (a' := ?_) #[true, true, true, true, true, true, true, true, true, false, false, false, false, false, false, false, false, false, false, false, false, false, false, false, false, false, false, false, false] rfl rfl (take_ofW HT_.out HW_.out (by kernel_rfl)) (fun _ _ _ h => h) (Or.inl ⟨by rfl, ?_⟩) hHeld ?_ ?_
                    rotate_left
                    · rintro w' ⟨s0, s1, s2, s3, s4, s5, s6, s7, s8, s9, s10, s11, s12, s13, s14, s15, s16, s17, s18, s19, s20, s21, s22, s23⟩
                      go_simp
                      with_reducible rfl
                    rotate_left
                    · simp only [Act.put, List.setIfInBounds_toArray, List.set_cons_zero, List.set_cons_succ, i64_w, i32_w]
                      rfl
                    refine pure_ (i := 9) (N := some 50) (v := ?_) (a' := ?_) #[true, true, true, true, true, true, true, true, true, true, false, false, false, false, false, false, false, false, false, false, false, false, false, false, false, false, false, false, false] rfl rfl (any_of HT_.out (by kernel_rfl)) (fun _ _ _ h => h) (Or.inl ⟨by rfl, ?_⟩) ?_ ?_
                    rotate_left
                    · intro w'
                      go_simp
                      with_reducible rfl
                    rotate_left
                    · simp only [Act.put, List.setIfInBounds_toArray, List.set_cons_zero, List.set_cons_succ, i64_w, i32_w]
                      rfl
                    refine pure_ (i := 10) (N := some 51) (v := ?_) (a' := ?_) #[true, true, true, true, true, true, true, true, true, true, true, false, false, false, false, false, false, false, false, false, false, false, false, false, false, false, false, false, false] rfl rfl (any_of HT_.out (by kernel_rfl)) (fun _ _ _ h => h) (Or.inl ⟨by rfl, ?_⟩) ?_ ?_
                    rotate_left
                    · intro w'
                      go_simp
                      with_reducible rfl
                    rotate_left
                    · simp only [Act.put, List.setIfInBounds_toArray, List.set_cons_zero, List.set_cons_succ, i64_w, i32_w]
                      rfl
                    refine take_ (i := 11) (N := some 52) (v := ?_) (a' := ?_) #[true, true, true, true, true, true, true, true, true, true, true, true, false, false, false, false, false, false, false, false, false, false, false, false, false, false, false, false, false] rfl rfl (take_ofW HT_.out HW_.out (by kernel_rfl)) (fun _ _ _ h => h) (Or.inl ⟨by rfl, ?_⟩) hHeld ?_ ?_
                    rotate_left
                    · rintro w' ⟨s0, s1, s2, s3, s4, s5, s6, s7, s8, s9, s10, s11, s12, s13, s14, s15, s16, s17, s18, s19, s20, s21, s22, s23⟩
                      go_simp
                      with_reducible rfl
                    rotate_left
                    · simp only [Act.put, List.setIfInBounds_toArray, List.set_cons_zero, List.set_cons_succ, i64_w, i32_w]
                      rfl
                    refine pure_ (i := 12) (N := some 53) (v := ?_) (a' := ?_) #[true, true, true, true, true, true, true, true, true, true, true, true, true, false, false, false, false, false, false, false, false, false, false, false, false, false, false, false, false] rfl rfl (any_of HT_.out (by kernel_rfl)) (fun _ _ _ h => h) (Or.inl ⟨by rfl, ?_⟩) ?_ ?_
                    rotate_left
                    · intro w'
                      go_simp
                      with_reducible rfl
                    rotate_left
                    · simp only [Act.put, List.setIfInBounds_toArray, List.set_cons_zero, List.set_cons_succ, i64_w, i32_w]
                      rfl
                    refine pure_ (i := 13) (N := some 54) (v := ?_) (a' := ?_) #[true, true, true, true, true, true, true, true, true, true, true, true, true, true, false, false, false, false, false, false, false, false, false, false, false, false, false, false, false] rfl rfl (any_of HT_.out (by kernel_rfl)) (fun _ _ _ h => h) (Or.inl ⟨by rfl, ?_⟩) ?_ ?_
                    rotate_left
                    · intro w'
                      go_simp
                      with_reducible rfl
                    rotate_left
                    · simp only [Act.put, List.setIfInBounds_toArray, List.set_cons_zero, List.set_cons_succ, i64_w, i32_w]
                      rfl
                    refine pure_ (i := 14) (N := some 55) (v := undef) (a' := ?_) #[true, true, true, true, true, true, true, true, true, true, true, true, true, true, true, false, false, false, false, false, false, false, false, false, false, false, false, false, false] rfl rfl (any_of HT_.out (by kernel_rfl)) (fun _ _ _ h => h) (Or.inr ⟨by rfl, rfl⟩) ?_ ?_
                    rotate_left
                    · simp only [Act.put, List.setIfInBounds_toArray, List.set_cons_zero, List.set_cons_succ, i64_w, i32_w]
                      rfl
                    refine pure_ (i := 15) (N := some 56) (v := undef) (a' := ?_) #[true, true, true, true, true, true, true, true, true, true, true, true, true, true, true, true, false, false, false, false, false, false, false, false, false, false, false, false, false] rfl rfl (any_of HT_.out (by kernel_rfl)) (fun _ _ _ h => h) (Or.inr ⟨by rfl, rfl⟩) ?_ ?_
                    rotate_left
                    · simp only [Act.put, List.setIfInBounds_toArray, List.set_cons_zero, List.set_cons_succ, i64_w, i32_w]
                      rfl
                    refine pure_ (i := 16) (N := some 57) (v := undef) (a' := ?_) #[true, true, true, true, true, true, true, true, true, true, true, true, true, true, true, true, true, false, false, false, false, false, false, false, false, false, false, false, false] rfl rfl (any_of HT_.out (by kernel_rfl)) (fun _ _ _ h => h) (Or.inr ⟨by rfl, rfl⟩) ?_ ?_
                    rotate_left
                    · simp only [Act.put, List.setIfInBounds_toArray, List.set_cons_zero, List.set_cons_succ, i64_w, i32_w]
                      rfl
                    refine pure_ (i := 17) (N := some 58) (v := undef) (a' := ?_) #[true, true, true, true, true, true, true, true, true, true, true, true, true, true, true, true, true, true, false, false, false, false, false, false, false, false, false, false, false] rfl rfl (any_of HT_.out (by kernel_rfl)) (fun _ _ _ h => h) (Or.inr ⟨by rfl, rfl⟩) ?_ ?_
                    rotate_left
                    · simp only [Act.put, List.setIfInBounds_toArray, List.set_cons_zero, List.set_cons_succ, i64_w, i32_w]
                      rfl
                    refine pure_ (i := 18) (N := some 59) (v := undef) (a' := ?_) #[true, true, true, true, true, true, true, true, true, true, true, true, true, true, true, true, true, true, true, false, false, false, false, false, false, false, false, false, false] rfl rfl (any_of HT_.out (by kernel_rfl)) (fun _ _ _ h => h) (Or.inr ⟨by rfl, rfl⟩) ?_ ?_
                    rotate_left
                    · simp only [Act.put, List.setIfInBounds_toArray, List.set_cons_zero, List.set_cons_succ, i64_w, i32_w]
                      rfl
                    refine pure_ (i := 19) (N := some 60) (v := undef) (a' := ?_) #[true, true, true, true, true, true, true, true, true, true, true, true, true, true, true, true, true, true, true, true, false, false, false, false, false, false, false, false, false] rfl rfl (any_of HT_.out (by kernel_rfl)) (fun _ _ _ h => h) (Or.inr ⟨by rfl, rfl⟩) ?_ ?_
                    rotate_left
                    · simp only [Act.put, List.setIfInBounds_toArray, List.set_cons_zero, List.set_cons_succ, i64_w, i32_w]
                      rfl
                    refine pure_ (i := 20) (N := some 61) (v := undef) (a' := ?_) #[true, true, true, true, true, true, true, true, true, true, true, true, true, true, true, true, true, true, true, true, true, false, false, false, false, false, false, false, false] rfl rfl (any_of HT_.out (by kernel_rfl)) (fun _ _ _ h => h) (Or.inr ⟨by rfl, rfl⟩) ?_ ?_
                    rotate_left
                    · simp only [Act.put, List.setIfInBounds_toArray, List.set_cons_zero, List.set_cons_succ, i64_w, i32_w]
                      rfl
                    refine pure_ (i := 21) (N := some 62) (v := undef) (a' := ?_) #[true, true, true, true, true, true, true, true, true, true, true, true, true, true, true, true, true, true, true, true, true, true, false, false, false, false, false, false, false] rfl rfl (any_of HT_.out (by kernel_rfl)) (fun _ _ _ h => h) (Or.inr ⟨by rfl, rfl⟩) ?_ ?_
                    rotate_left
                    · simp only [Act.put, List.setIfInBounds_toArray, List.set_cons_zero, List.set_cons_succ, i64_w, i32_w]
                      rfl
                    refine pure_ (i := 22) (N := some 63) (v := undef) (a' := ?_) #[true, true, true, true, true, true, true, true, true, true, true, true, true, true, true, true, true, true, true, true, true, true, true, false, false, false, false, false, false] rfl rfl (any_of HT_.out (by kernel_rfl)) (fun _ _ _ h => h) (Or.inr ⟨by rfl, rfl⟩) ?_ ?_
                    rotate_left
                    · simp only [Act.put, List.setIfInBounds_toArray, List.set_cons_zero, List.set_cons_succ, i64_w, i32_w]
                      rfl
                    refine pure_ (i := 23) (N := some 64) (v := undef) (a' := ?_) #[true, true, true, true, true, true, true, true, true, true, true, true, true, true, true, true, true, true, true, true, true, true, true, true, false, false, false, false, false] rfl rfl (any_of HT_.out (by kernel_rfl)) (fun _ _ _ h => h) (Or.inr ⟨by rfl, rfl⟩) ?_ ?_
                    rotate_left
                    · simp only [Act.put, List.setIfInBounds_toArray, List.set_cons_zero, List.set_cons_succ, i64_w, i32_w]
                      rfl
                    refine pure_ (i := 24) (N := some 65) (v := undef) (a' := ?_) #[true, true, true, true, true, true, true, true, true, true, true, true, true, true, true, true, true, true, true, true, true, true, true, true, true, false, false, false, false] rfl rfl (any_of HT_.out (by kernel_rfl)) (fun _ _ _ h => h) (Or.inr ⟨by rfl, rfl⟩) ?_ ?_
                    rotate_left
                    · simp only [Act.put, List.setIfInBounds_toArray, List.set_cons_zero, List.set_cons_succ, i64_w, i32_w]
                      rfl
                    refine pure_ (i := 25) (N := some 66) (v := undef) (a' := ?_) #[true, true, true, true, true, true, true, true, true, true, true, true, true, true, true, true, true, true, true, true, true, true, true, true, true, true, false, false, false] rfl rfl (any_of HT_.out (by kernel_rfl)) (fun _ _ _ h => h) (Or.inr ⟨by rfl, rfl⟩) ?_ ?_
                    rotate_left
                    · simp only [Act.put, List.setIfInBounds_toArray, List.set_cons_zero, List.set_cons_succ, i64_w, i32_w]
                      rfl
                    refine pure_ (i := 26) (N := some 67) (v := undef) (a' := ?_) #[true, true, true, true, true, true, true, true, true, true, true, true, true, true, true, true, true, true, true, true, true, true, true, true, true, true, true, false, false] rfl rfl (any_of HT_.out (by kernel_rfl)) (fun _ _ _ h => h) (Or.inr ⟨by rfl, rfl⟩) ?_ ?_
                    rotate_left
                    · simp only [Act.put, List.setIfInBounds_toArray, List.set_cons_zero, List.set_cons_succ, i64_w, i32_w]
                      rfl
                    refine pure_ (i := 27) (N := some 68) (v := undef) (a' := ?_) #[true, true, true, true, true, true, true, true, true, true, true, true, true, true, true, true, true, true, true, true, true, true, true, true, true, true, true, true, false] rfl rfl (any_of HT_.out (by kernel_rfl)) (fun _ _ _ h => h) (Or.inr ⟨by rfl, rfl⟩) ?_ ?_
                    rotate_left
                    · simp only [Act.put, List.setIfInBounds_toArray, List.set_cons_zero, List.set_cons_succ, i64_w, i32_w]
                      rfl
                    refine pure_ (i := 28) (N := some 69) (v := ?_) (a' := ?_) #[true, true, true, true, true, true, true, true, true, true, true, true, true, true, true, true, true, true, true, true, true, true, true, true, true, true, true, true, true] rfl rfl (any_of HT_.out (by kernel_rfl)) (fun _ _ _ h => h) (Or.inl ⟨by rfl, ?_⟩) ?_ ?_
                    rotate_left
                    · intro w'
                      go_simp
                      with_reducible rfl
                    rotate_left
                    · simp only [Act.put, List.setIfInBounds_toArray, List.set_cons_zero, List.set_cons_succ, i64_w, i32_w]
                      rfl
                    refine done_ (done_of HT_.out (by kernel_rfl)) ?_
                    try go_wp2
                    go_ret
                    exact ⟨Kit.er, Kit.bl⟩
                  · rw [if_neg c25] at H
                    have c25b0 : (((rd_T131 l0_2 x5_2).f1) != ((rd_T131 l1_2 x5_2).f1)) = false := by simpa using c25
                    (try (have c25b1 : decide (((rd_T131 l0_2 x5_2).f1) = ((rd_T131 l1_2 x5_2).f1)) = true := by simpa using c25))
                    (try (have c25b2 : (((rd_T131 l0_2 x5_2).f1) == ((rd_T131 l1_2 x5_2).f1)) = true := by simpa using c25))
                    clear c25
                    replace H := Option.bind_eq_some_iff.mp H
                    obtain ⟨t268, A290, H⟩ := H
                    replace H : (if t268 = true then (spec_SameShard.l0 k2 (wrap64 (x5_2 + 1)) a0_0 a0_1 l0_2 a0_3 a1_0 a1_1 l1_2 a1_3) else (some false)) = some r := H
                    have A29 := Aside0.mk A290
                    clear A290
                    by_cases c30 : t268 = true
                    · subst c30
                      have H1 : (spec_SameShard.l0 k2 (wrap64 (x5_2 + 1)) a0_0 a0_1 l0_2 a0_3 a1_0 a1_1 l1_2 a1_3) = some r := by rw [if_pos rfl] at H; exact H
                      clear H
                      have H := H1
                      clear H1
                      have H' := Aside0.mk H
                      clear H
                      have hnb31 := NB262_263.out
                      have hnc31 := NB263_262.out
                      have hcz32_0 : wr.cell? ⟨gb262, 0, none⟩ = some (.int .i64 a0_0) := (blk_cell BK262.out 0).trans rfl
                      have hcz32_1 : wr.cell? ⟨gb262, 1, none⟩ = some (.int .i64 a0_1) := (blk_cell BK262.out 1).trans rfl
                      have hcz32_2 : wr.cell? ⟨gb262, 2, none⟩ = some (.slice A0_2 l0_2.length c0_2) := (blk_cell BK262.out 2).trans rfl
                      have hcz32_3 : wr.cell? ⟨gb262, 3, none⟩ = some (.int .i64 a0_3) := (blk_cell BK262.out 3).trans rfl
                      have hfz32_0 := blk_frozen BK262.out 0
                      have hfz32_1 := blk_frozen BK262.out 1
                      have hfz32_2 := blk_frozen BK262.out 2
                      have hfz32_3 := blk_frozen BK262.out 3
                      try go_wp2
                      replace BK262 := Aside0.mk (blk_drew BK262.out)
                      replace BK263 := Aside0.mk (blk_drew BK263.out)
                      replace HB := Aside0.mk (below_drew1 HB.out)
                      have p264 : 0 ≤ (x5_2 : Int) := of_decide_eq_true Kit.asm
                      have q264 : x5_2 < (l0_2.length : Int) := of_decide_eq_true Kit.asm
                      obtain ⟨ad264, A264_1, c264_1, A264_3, c264_3, e264, hx264_0, hx264_1, hx264_2, hx264_3, hx264_4, hx264_5, hx264_6, hx264_7, hl264_1, hi264_1, hl264_3, hi264_3⟩ := at_T131 HR0_2.out x5_2 p264 q264
                      have hw264_7 := hx264_7
                      have hw264_6 := hx264_6
                      have hw264_5 := hx264_5
                      have hw264_4 := hx264_4
                      have hw264_3 := hx264_3
                      have hw264_2 := hx264_2
                      have hw264_1 := hx264_1
                      have hw264_0 := hx264_0
                      cases e264
                      replace hx264_0 := Kit.hx HB.out hx264_0
                      replace hx264_1 := Kit.hx HB.out hx264_1
                      replace hx264_2 := Kit.hx HB.out hx264_2
                      replace hx264_3 := Kit.hx HB.out hx264_3
                      replace hx264_4 := Kit.hx HB.out hx264_4
                      replace hx264_5 := Kit.hx HB.out hx264_5
                      replace hx264_6 := Kit.hx HB.out hx264_6
                      replace hx264_7 := Kit.hx HB.out hx264_7
                      have HR264_1 := Aside0.mk hi264_1
                      have HC264_1 := Aside0.mk hl264_1
                      clear hi264_1 hl264_1
                      have HR264_3 := Aside0.mk hi264_3
                      have HC264_3 := Aside0.mk hl264_3
                      clear hi264_3 hl264_3
                      replace p264 := eq_true p264
                      replace q264 := eq_true q264
                      have p265 : 0 ≤ (x5_2 : Int) := of_decide_eq_true Kit.asm
                      have q265 : x5_2 < (l1_2.length : Int) := of_decide_eq_true Kit.asm
                      obtain ⟨ad265, A265_1, c265_1, A265_3, c265_3, e265, hx265_0, hx265_1, hx265_2, hx265_3, hx265_4, hx265_5, hx265_6, hx265_7, hl265_1, hi265_1, hl265_3, hi265_3⟩ := at_T131 HR1_2.out x5_2 p265 q265
                      have hw265_7 := hx265_7
                      have hw265_6 := hx265_6
                      have hw265_5 := hx265_5
                      have hw265_4 := hx265_4
                      have hw265_3 := hx265_3
                      have hw265_2 := hx265_2
                      have hw265_1 := hx265_1
                      have hw265_0 := hx265_0
                      cases e265
                      replace hx265_0 := Kit.hx HB.out hx265_0
                      replace hx265_1 := Kit.hx HB.out hx265_1
                      replace hx265_2 := Kit.hx HB.out hx265_2
                      replace hx265_3 := Kit.hx HB.out hx265_3
                      replace hx265_4 := Kit.hx HB.out hx265_4
                      replace hx265_5 := Kit.hx HB.out hx265_5
                      replace hx265_6 := Kit.hx HB.out hx265_6
                      replace hx265_7 := Kit.hx HB.out hx265_7
                      have HR265_1 := Aside0.mk hi265_1
                      have HC265_1 := Aside0.mk hl265_1
                      clear hi265_1 hl265_1
                      have HR265_3 := Aside0.mk hi265_3
                      have HC265_3 := Aside0.mk hl265_3
                      clear hi265_3 hl265_3
                      replace p265 := eq_true p265
                      replace q265 := eq_true q265
                      have p266 : 0 ≤ (x5_2 : Int) := of_decide_eq_true Kit.asm
                      have q266 : x5_2 < (l0_2.length : Int) := of_decide_eq_true Kit.asm
                      obtain ⟨ad266, A266_1, c266_1, A266_3, c266_3, e266, hx266_0, hx266_1, hx266_2, hx266_3, hx266_4, hx266_5, hx266_6, hx266_7, hl266_1, hi266_1, hl266_3, hi266_3⟩ := at_T131 HR0_2.out x5_2 p266 q266
                      have hw266_7 := hx266_7
                      have hw266_6 := hx266_6
                      have hw266_5 := hx266_5
                      have hw266_4 := hx266_4
                      have hw266_3 := hx266_3
                      have hw266_2 := hx266_2
                      have hw266_1 := hx266_1
                      have hw266_0 := hx266_0
                      obtain rfl : ad264 = ad266 := (by injection e266)
                      replace hx266_0 := Kit.hx HB.out hx266_0
                      replace hx266_1 := Kit.hx HB.out hx266_1
                      replace hx266_2 := Kit.hx HB.out hx266_2
                      replace hx266_3 := Kit.hx HB.out hx266_3
                      replace hx266_4 := Kit.hx HB.out hx266_4
                      replace hx266_5 := Kit.hx HB.out hx266_5
                      replace hx266_6 := Kit.hx HB.out hx266_6
                      replace hx266_7 := Kit.hx HB.out hx266_7
                      have HR266_1 := Aside0.mk hi266_1
                      have HC266_1 := Aside0.mk hl266_1
                      clear hi266_1 hl266_1
                      have HR266_3 := Aside0.mk hi266_3
                      have HC266_3 := Aside0.mk hl266_3
                      clear hi266_3 hl266_3
                      replace p266 := eq_true p266
                      replace q266 := eq_true q266
                      have ea_ := Option.some.inj (hx264_1.symm.trans hx266_1)
                      injection ea_ with ea_ en_ ec_
                      subst ea_
                      subst ec_
                      clear en_
                      have ea_ := Option.some.inj (hx264_3.symm.trans hx266_3)
                      injection ea_ with ea_ en_ ec_
                      subst ea_
                      subst ec_
                      clear en_
                      have p267 : 0 ≤ (x5_2 : Int) := of_decide_eq_true Kit.asm
                      have q267 : x5_2 < (l1_2.length : Int) := of_decide_eq_true Kit.asm
                      obtain ⟨ad267, A267_1, c267_1, A267_3, c267_3, e267, hx267_0, hx267_1, hx267_2, hx267_3, hx267_4, hx267_5, hx267_6, hx267_7, hl267_1, hi267_1, hl267_3, hi267_3⟩ := at_T131 HR1_2.out x5_2 p267 q267
                      have hw267_7 := hx267_7
                      have hw267_6 := hx267_6
                      have hw267_5 := hx267_5
                      have hw267_4 := hx267_4
                      have hw267_3 := hx267_3
                      have hw267_2 := hx267_2
                      have hw267_1 := hx267_1
                      have hw267_0 := hx267_0
                      obtain rfl : ad265 = ad267 := (by injection e267)
                      replace hx267_0 := Kit.hx HB.out hx267_0
                      replace hx267_1 := Kit.hx HB.out hx267_1
                      replace hx267_2 := Kit.hx HB.out hx267_2
                      replace hx267_3 := Kit.hx HB.out hx267_3
                      replace hx267_4 := Kit.hx HB.out hx267_4
                      replace hx267_5 := Kit.hx HB.out hx267_5
                      replace hx267_6 := Kit.hx HB.out hx267_6
                      replace hx267_7 := Kit.hx HB.out hx267_7
                      have HR267_1 := Aside0.mk hi267_1
                      have HC267_1 := Aside0.mk hl267_1
                      clear hi267_1 hl267_1
                      have HR267_3 := Aside0.mk hi267_3
                      have HC267_3 := Aside0.mk hl267_3
                      clear hi267_3 hl267_3
                      replace p267 := eq_true p267
                      replace q267 := eq_true q267
                      have ea_ := Option.some.inj (hx265_1.symm.trans hx267_1)
                      injection ea_ with ea_ en_ ec_
                      subst ea_
                      subst ec_
                      clear en_
                      have ea_ := Option.some.inj (hx265_3.symm.trans hx267_3)
                      injection ea_ with ea_ en_ ec_
                      subst ea_
                      subst ec_
                      clear en_
                      refine start_ (n := 29) (S := fun w' => w'.cell? ⟨gb262, 0, none⟩ = some (.int .i64 a0_0) ∧ w'.cell? ⟨gb262, 1, none⟩ = some (.int .i64 a0_1) ∧ w'.cell? ⟨gb262, 2, none⟩ = some (.slice (some ad264) l0_2.length c0_2) ∧ w'.cell? ⟨gb262, 3, none⟩ = some (.int .i64 a0_3) ∧ w'.cell? ⟨gb263, 0, none⟩ = some (.int .i64 a1_0) ∧ w'.cell? ⟨gb263, 1, none⟩ = some (.int .i64 a1_1) ∧ w'.cell? ⟨gb263, 2, none⟩ = some (.slice (some ad265) l1_2.length c1_2) ∧ w'.cell? ⟨gb263, 3, none⟩ = some (.int .i64 a1_3) ∧ w'.cell? (ad264.add ((x5_2).toNat * 8)) = some (.string ((rd_T131 l0_2 x5_2).f0.f0)) ∧ w'.cell? ⟨(ad264.add ((x5_2).toNat * 8)).block, (ad264.add ((x5_2).toNat * 8)).off + 1, none⟩ = some (.slice A264_1 ((rd_T131 l0_2 x5_2).f0.f1).length c264_1) ∧ w'.cell? ⟨(ad264.add ((x5_2).toNat * 8)).block, (ad264.add ((x5_2).toNat * 8)).off + 2, none⟩ = some (.int .i64 ((rd_T131 l0_2 x5_2).f0.f2.f0)) ∧ w'.cell? ⟨(ad264.add ((x5_2).toNat * 8)).block, (ad264.add ((x5_2).toNat * 8)).off + 3, none⟩ = some (.slice A264_3 ((rd_T131 l0_2 x5_2).f0.f2.f1).length c264_3) ∧ w'.cell? ⟨(ad264.add ((x5_2).toNat * 8)).block, (ad264.add ((x5_2).toNat * 8)).off + 4, none⟩ = some (.string ((rd_T131 l0_2 x5_2).f0.f2.f2)) ∧ w'.cell? ⟨(ad264.add ((x5_2).toNat * 8)).block, (ad264.add ((x5_2).toNat * 8)).off + 5, none⟩ = some (.int .i64 ((rd_T131 l0_2 x5_2).f0.f3)) ∧ w'.cell? ⟨(ad264.add ((x5_2).toNat * 8)).block, (ad264.add ((x5_2).toNat * 8)).off + 6, none⟩ = some (.int .i64 ((rd_T131 l0_2 x5_2).f0.f4)) ∧ w'.cell? ⟨(ad264.add ((x5_2).toNat * 8)).block, (ad264.add ((x5_2).toNat * 8)).off + 7, none⟩ = some (.bool ((rd_T131 l0_2 x5_2).f1)) ∧ w'.cell? (ad265.add ((x5_2).toNat * 8)) = some (.string ((rd_T131 l1_2 x5_2).f0.f0)) ∧ w'.cell? ⟨(ad265.add ((x5_2).toNat * 8)).block, (ad265.add ((x5_2).toNat * 8)).off + 1, none⟩ = some (.slice A265_1 ((rd_T131 l1_2 x5_2).f0.f1).length c265_1) ∧ w'.cell? ⟨(ad265.add ((x5_2).toNat * 8)).block, (ad265.add ((x5_2).toNat * 8)).off + 2, none⟩ = some (.int .i64 ((rd_T131 l1_2 x5_2).f0.f2.f0)) ∧ w'.cell? ⟨(ad265.add ((x5_2).toNat * 8)).block, (ad265.add ((x5_2).toNat * 8)).off + 3, none⟩ = some (.slice A265_3 ((rd_T131 l1_2 x5_2).f0.f2.f1).length c265_3) ∧ w'.cell? ⟨(ad265.add ((x5_2).toNat * 8)).block, (ad265.add ((x5_2).toNat * 8)).off + 4, none⟩ = some (.string ((rd_T131 l1_2 x5_2).f0.f2.f2)) ∧ w'.cell? ⟨(ad265.add ((x5_2).toNat * 8)).block, (ad265.add ((x5_2).toNat * 8)).off + 5, none⟩ = some (.int .i64 ((rd_T131 l1_2 x5_2).f0.f3)) ∧ w'.cell? ⟨(ad265.add ((x5_2).toNat * 8)).block, (ad265.add ((x5_2).toNat * 8)).off + 6, none⟩ = some (.int .i64 ((rd_T131 l1_2 x5_2).f0.f4)) ∧ w'.cell? ⟨(ad265.add ((x5_2).toNat * 8)).block, (ad265.add ((x5_2).toNat * 8)).off + 7, none⟩ = some (.bool ((rd_T131 l1_2 x5_2).f1)) ∧ w'.cell? (ad264.add ((x5_2).toNat * 8)) = some (.string ((rd_T131 l0_2 x5_2).f0.f0)) ∧ w'.cell? ⟨(ad264.add ((x5_2).toNat * 8)).block, (ad264.add ((x5_2).toNat * 8)).off + 1, none⟩ = some (.slice A264_1 ((rd_T131 l0_2 x5_2).f0.f1).length c264_1) ∧ w'.cell? ⟨(ad264.add ((x5_2).toNat * 8)).block, (ad264.add ((x5_2).toNat * 8)).off + 2, none⟩ = some (.int .i64 ((rd_T131 l0_2 x5_2).f0.f2.f0)) ∧ w'.cell? ⟨(ad264.add ((x5_2).toNat * 8)).block, (ad264.add ((x5_2).toNat * 8)).off + 3, none⟩ = some (.slice A264_3 ((rd_T131 l0_2 x5_2).f0.f2.f1).length c264_3) ∧ w'.cell? ⟨(ad264.add ((x5_2).toNat * 8)).block, (ad264.add ((x5_2).toNat * 8)).off + 4, none⟩ = some (.string ((rd_T131 l0_2 x5_2).f0.f2.f2)) ∧ w'.cell? ⟨(ad264.add ((x5_2).toNat * 8)).block, (ad264.add ((x5_2).toNat * 8)).off + 5, none⟩ = some (.int .i64 ((rd_T131 l0_2 x5_2).f0.f3)) ∧ w'.cell? ⟨(ad264.add ((x5_2).toNat * 8)).block, (ad264.add ((x5_2).toNat * 8)).off + 6, none⟩ = some (.int .i64 ((rd_T131 l0_2 x5_2).f0.f4)) ∧ w'.cell? ⟨(ad264.add ((x5_2).toNat * 8)).block, (ad264.add ((x5_2).toNat * 8)).off + 7, none⟩ = some (.bool ((rd_T131 l0_2 x5_2).f1)) ∧ w'.cell? (ad265.add ((x5_2).toNat * 8)) = some (.string ((rd_T131 l1_2 x5_2).f0.f0)) ∧ w'.cell? ⟨(ad265.add ((x5_2).toNat * 8)).block, (ad265.add ((x5_2).toNat * 8)).off + 1, none⟩ = some (.slice A265_1 ((rd_T131 l1_2 x5_2).f0.f1).length c265_1) ∧ w'.cell? ⟨(ad265.add ((x5_2).toNat * 8)).block, (ad265.add ((x5_2).toNat * 8)).off + 2, none⟩ = some (.int .i64 ((rd_T131 l1_2 x5_2).f0.f2.f0)) ∧ w'.cell? ⟨(ad265.add ((x5_2).toNat * 8)).block, (ad265.add ((x5_2).toNat * 8)).off + 3, none⟩ = some (.slice A265_3 ((rd_T131 l1_2 x5_2).f0.f2.f1).length c265_3) ∧ w'.cell? ⟨(ad265.add ((x5_2).toNat * 8)).block, (ad265.add ((x5_2).toNat * 8)).off + 4, none⟩ = some (.string ((rd_T131 l1_2 x5_2).f0.f2.f2)) ∧ w'.cell? ⟨(ad265.add ((x5_2).toNat * 8)).block, (ad265.add ((x5_2).toNat * 8)).off + 5, none⟩ = some (.int .i64 ((rd_T131 l1_2 x5_2).f0.f3)) ∧ w'.cell? ⟨(ad265.add ((x5_2).toNat * 8)).block, (ad265.add ((x5_2).toNat * 8)).off + 6, none⟩ = some (.int .i64 ((rd_T131 l1_2 x5_2).f0.f4)) ∧ w'.cell? ⟨(ad265.add ((x5_2).toNat * 8)).block, (ad265.add ((x5_2).toNat * 8)).off + 7, none⟩ = some (.bool ((rd_T131 l1_2 x5_2).f1))) (ds := []) #[false, false, false, false, false, false, false, false, false, false, false, false, false, false, false, false, false, false, false, false, false, false, false, false, false, false, false, false, false] (by kernel_rfl) rfl rfl ⟨(blk_cell BK262.out 0).trans rfl, (blk_cell BK262.out 1).trans rfl, (blk_cell BK262.out 2).trans rfl, (blk_cell BK262.out 3).trans rfl, (blk_cell BK263.out 0).trans rfl, (blk_cell BK263.out 1).trans rfl, (blk_cell BK263.out 2).trans rfl, (blk_cell BK263.out 3).trans rfl, (Kit.hx HB.out hw264_0), (Kit.hx HB.out hw264_1), (Kit.hx HB.out hw264_2), (Kit.hx HB.out hw264_3), (Kit.hx HB.out hw264_4), (Kit.hx HB.out hw264_5), (Kit.hx HB.out hw264_6), (Kit.hx HB.out hw264_7), (Kit.hx HB.out hw265_0), (Kit.hx HB.out hw265_1), (Kit.hx HB.out hw265_2), (Kit.hx HB.out hw265_3), (Kit.hx HB.out hw265_4), (Kit.hx HB.out hw265_5), (Kit.hx HB.out hw265_6), (Kit.hx HB.out hw265_7), (Kit.hx HB.out hw266_0), (Kit.hx HB.out hw266_1), (Kit.hx HB.out hw266_2), (Kit.hx HB.out hw266_3), (Kit.hx HB.out hw266_4), (Kit.hx HB.out hw266_5), (Kit.hx HB.out hw266_6), (Kit.hx HB.out hw266_7), (Kit.hx HB.out hw267_0), (Kit.hx HB.out hw267_1), (Kit.hx HB.out hw267_2), (Kit.hx HB.out hw267_3), (Kit.hx HB.out hw267_4), (Kit.hx HB.out hw267_5), (Kit.hx HB.out hw267_6), (Kit.hx HB.out hw267_7)⟩ (fun hHeld => ?_); refine with_tabW spec_SameShard.tab6 spec_SameShard.bits6 (fun HT_ HW_ => ?_)
                      generalize wr.drew = w33 at BK262 BK263 HB HR264_1 HR264_3 HR265_1 HR265_3 HR266_1 HR266_3 HR267_1 HR267_3 hx264_0 hx264_1 hx264_2 hx264_3 hx264_4 hx264_5 hx264_6 hx264_7 hx265_0 hx265_1 hx265_2 hx265_3 hx265_4 hx265_5 hx265_6 hx265_7 hx266_0 hx266_1 hx266_2 hx266_3 hx266_4 hx266_5 hx266_6 hx266_7 hx267_0 hx267_1 hx267_2 hx267_3 hx267_4 hx267_5 hx267_6 hx267_7 hHeld ⊢
                      refine pure_ (i := 0) (N := some 41) (v := ?_) (a' := ?_) #[true, false, false, false, false, false, false, false, false, false, false, false, false, false, false, false, false, false, false, false, false, false, false, false, false, false, false, false, false] rfl rfl (any_of HT_.out (by kernel_rfl)) (fun _ _ _ h => h) (Or.inl ⟨by rfl, ?_⟩) ?_ ?_
                      rotate_left
                      · intro w'
                        go_simp
                        with_reducible rfl
                      rotate_left
                      · simp only [Act.put, List.setIfInBounds_toArray, List.set_cons_zero, List.set_cons_succ, i64_w, i32_w]
                        rfl
                      refine pure_ (i := 2) (N := some 43) (v := ?_) (a' := ?_) #[true, false, true, false, false, false, false, false, false, false, false, false, false, false, false, false, false, false, false, false, false, false, false, false, false, false, false, false, false] rfl rfl (any_of HT_.out (by kernel_rfl)) (fun _ _ _ h => h) (Or.inl ⟨by rfl, ?_⟩) ?_ ?_
                      rotate_left
                      · intro w'
                        go_simp
                        with_reducible rfl
                      rotate_left
                      · simp only [Act.put, List.setIfInBounds_toArray, List.set_cons_zero, List.set_cons_succ, i64_w, i32_w]
                        rfl
                      refine pure_ (i := 6) (N := some 47) (v := ?_) (a' := ?_) #[true, false, true, false, false, false, true, false, false, false, false, false, false, false, false, false, false, false, false, false, false, false, false, false, false, false, false, false, false] rfl rfl (any_of HT_.out (by kernel_rfl)) (fun _ _ _ h => h) (Or.inl ⟨by rfl, ?_⟩) ?_ ?_
                      rotate_left
                      · intro w'
                        go_simp
                        with_reducible rfl
                      rotate_left
                      · simp only [Act.put, List.setIfInBounds_toArray, List.set_cons_zero, List.set_cons_succ, i64_w, i32_w]
                        rfl
                      refine pure_ (i := 8) (N := some 49) (v := ?_) (a' := ?_) #[true, false, true, false, false, false, true, false, true, false, false, false, false, false, false, false, false, false, false, false, false, false, false, false, false, false, false, false, false] rfl rfl (any_of HT_.out (by kernel_rfl)) (fun _ _ _ h => h) (Or.inl ⟨by rfl, ?_⟩) ?_ ?_
                      rotate_left
                      · intro w'
                        go_simp
                        with_reducible rfl
                      rotate_left
                      · simp only [Act.put, List.setIfInBounds_toArray, List.set_cons_zero, List.set_cons_succ, i64_w, i32_w]
                        rfl
                      refine take_ (i := 1) (N := some 42) (v := ?_) (a' := ?_) #[true, true, true, false, false, false, true, false, true, false, false, false, false, false, false, false, false, false, false, false, false, false, false, false, false, false, false, false, false] rfl rfl (take_ofW HT_.out HW_.out (by kernel_rfl)) (fun _ _ _ h => h) (Or.inl ⟨by rfl, ?_⟩) hHeld ?_ ?_
                      rotate_left
                      · rintro w' ⟨s0, s1, s2, s3, s4, s5, s6, s7, s8, s9, s10, s11, s12, s13, s14, s15, s16, s17, s18, s19, s20, s21, s22, s23, s24, s25, s26, s27, s28, s29, s30, s31, s32, s33, s34, s35, s36, s37, s38, s39⟩
                        go_simp
                        with_reducible rfl
                      rotate_left
                      · simp only [Act.put, List.setIfInBounds_toArray, List.set_cons_zero, List.set_cons_succ, i64_w, i32_w]
                        rfl
                      refine pure_ (i := 3) (N := some 44) (v := ?_) (a' := ?_) #[true, true, true, true, false, false, true, false, true, false, false, false, false, false, false, false, false, false, false, false, false, false, false, false, false, false, false, false, false] rfl rfl (any_of HT_.out (by kernel_rfl)) (fun _ _ _ h => h) (Or.inl ⟨by rfl, ?_⟩) ?_ ?_
                      rotate_left
                      · intro w'
                        go_simp
                        with_reducible rfl
                      rotate_left
                      · simp only [Act.put, List.setIfInBounds_toArray, List.set_cons_zero, List.set_cons_succ, i64_w, i32_w]
                        rfl
                      refine pure_ (i := 4) (N := some 45) (v := ?_) (a' := ?_) #[true, true, true, true, true, false, true, false, true, false, false, false, false, false, false, false, false, false, false, false, false, false, false, false, false, false, false, false, false] rfl rfl (any_of HT_.out (by kernel_rfl)) (fun _ _ _ h => h) (Or.inl ⟨by rfl, ?_⟩) ?_ ?_
                      rotate_left
                      · intro w'
                        go_simp
                        with_reducible rfl
                      rotate_left
                      · simp only [Act.put, List.setIfInBounds_toArray, List.set_cons_zero, List.set_cons_succ, i64_w, i32_w]
                        rfl
                      refine take_ (i := 5) (N := some 46) (v := ?_) (a' := ?_) #[true, true, true, true, true, true, true, false, true, false, false, false, false, false, false, false, false, false, false, false, false, false, false, false, false, false, false, false, false] rfl rfl (take_ofW HT_.out HW_.out (by kernel_rfl)) (fun _ _ _ h => h) (Or.inl ⟨by rfl, ?_⟩) hHeld ?_ ?_
                      rotate_left
                      · rintro w' ⟨s0, s1, s2, s3, s4, s5, s6, s7, s8, s9, s10, s11, s12, s13, s14, s15, s16, s17, s18, s19, s20, s21, s22, s23, s24, s25, s26, s27, s28, s29, s30, s31, s32, s33, s34, s35, s36, s37, s38, s39⟩
                        go_simp
                        with_reducible rfl
                      rotate_left
                      · simp only [Act.put, List.setIfInBounds_toArray, List.set_cons_zero, List.set_cons_succ, i64_w, i32_w]
                        rfl
                      refine take_ (i := 7) (N := some 48) (v := ?_) (a' := ?_) #[true, true, true, true, true, true, true, true, true, false, false, false, false, false, false, false, false, false, false, false, false, false, false, false, false, false, false, false, false] rfl rfl (take_ofW HT_.out HW_.out (by kernel_rfl)) (fun _ _ _ h => h) (Or.inl ⟨by rfl, ?_⟩) hHeld ?_ ?_
                      rotate_left
                      · rintro w' ⟨s0, s1, s2, s3, s4, s5, s6, s7, s8, s9, s10, s11, s12, s13, s14, s15, s16, s17, s18, s19, s20, s21, s22, s23, s24, s25, s26, s27, s28, s29, s30, s31, s32, s33, s34, s35, s36, s37, s38, s39⟩
                        go_simp
                        with_reducible rfl
                      rotate_left
                      · simp only [Act.put, List.setIfInBounds_toArray, List.set_cons_zero, List.set_cons_succ, i64_w, i32_w]
                        rfl
                      refine pure_ (i := 9) (N := some 50) (v := ?_) (a' := ?_) #[true, true, true, true, true, true, true, true, true, true, false, false, false, false, false, false, false, false, false, false, false, false, false, false, false, false, false, false, false] rfl rfl (any_of HT_.out (by kernel_rfl)) (fun _ _ _ h => h) (Or.inl ⟨by rfl, ?_⟩) ?_ ?_
                      rotate_left
                      · intro w'
                        go_simp
                        with_reducible rfl
                      rotate_left
                      · simp only [Act.put, List.setIfInBounds_toArray, List.set_cons_zero, List.set_cons_succ, i64_w, i32_w]
                        rfl
                      refine pure_ (i := 10) (N := some 51) (v := ?_) (a' := ?_) #[true, true, true, true, true, true, true, true, true, true, true, false, false, false, false, false, false, false, false, false, false, false, false, false, false, false, false, false, false] rfl rfl (any_of HT_.out (by kernel_rfl)) (fun _ _ _ h => h) (Or.inl ⟨by rfl, ?_⟩) ?_ ?_
                      rotate_left
                      · intro w'
                        go_simp
                        with_reducible rfl
                      rotate_left
                      · simp only [Act.put, List.setIfInBounds_toArray, List.set_cons_zero, List.set_cons_succ, i64_w, i32_w]
                        rfl
                      refine take_ (i := 11) (N := some 52) (v := ?_) (a' := ?_) #[true, true, true, true, true, true, true, true, true, true, true, true, false, false, false, false, false, false, false, false, false, false, false, false, false, false, false, false, false] rfl rfl (take_ofW HT_.out HW_.out (by kernel_rfl)) (fun _ _ _ h => h) (Or.inl ⟨by rfl, ?_⟩) hHeld ?_ ?_
                      rotate_left
                      · rintro w' ⟨s0, s1, s2, s3, s4, s5, s6, s7, s8, s9, s10, s11, s12, s13, s14, s15, s16, s17, s18, s19, s20, s21, s22, s23, s24, s25, s26, s27, s28, s29, s30, s31, s32, s33, s34, s35, s36, s37, s38, s39⟩
                        go_simp
                        with_reducible rfl
                      rotate_left
                      · simp only [Act.put, List.setIfInBounds_toArray, List.set_cons_zero, List.set_cons_succ, i64_w, i32_w]
                        rfl
                      refine pure_ (i := 12) (N := some 53) (v := ?_) (a' := ?_) #[true, true, true, true, true, true, true, true, true, true, true, true, true, false, false, false, false, false, false, false, false, false, false, false, false, false, false, false, false] rfl rfl (any_of HT_.out (by kernel_rfl)) (fun _ _ _ h => h) (Or.inl ⟨by rfl, ?_⟩) ?_ ?_
                      rotate_left
                      · intro w'
                        go_simp
                        with_reducible rfl
                      rotate_left
                      · simp only [Act.put, List.setIfInBounds_toArray, List.set_cons_zero, List.set_cons_succ, i64_w, i32_w]
                        rfl
                      refine pure_ (i := 13) (N := some 54) (v := ?_) (a' := ?_) #[true, true, true, true, true, true, true, true, true, true, true, true, true, true, false, false, false, false, false, false, false, false, false, false, false, false, false, false, false] rfl rfl (any_of HT_.out (by kernel_rfl)) (fun _ _ _ h => h) (Or.inl ⟨by rfl, ?_⟩) ?_ ?_
                      rotate_left
                      · intro w'
                        go_simp
                        with_reducible rfl
                      rotate_left
                      · simp only [Act.put, List.setIfInBounds_toArray, List.set_cons_zero, List.set_cons_succ, i64_w, i32_w]
                        rfl
                      refine pure_ (i := 14) (N := some 55) (v := ?_) (a' := ?_) #[true, true, true, true, true, true, true, true, true, true, true, true, true, true, true, false, false, false, false, false, false, false, false, false, false, false, false, false, false] rfl rfl (any_of HT_.out (by kernel_rfl)) (fun _ _ _ h => h) (Or.inl ⟨by rfl, ?_⟩) ?_ ?_
                      rotate_left
                      · intro w'
                        go_simp
                        with_reducible rfl
                      rotate_left
                      · simp only [Act.put, List.setIfInBounds_toArray, List.set_cons_zero, List.set_cons_succ, i64_w, i32_w]
                        rfl
                      refine pure_ (i := 16) (N := some 57) (v := ?_) (a' := ?_) #[true, true, true, true, true, true, true, true, true, true, true, true, true, true, true, false, true, false, false, false, false, false, false, false, false, false, false, false, false] rfl rfl (any_of HT_.out (by kernel_rfl)) (fun _ _ _ h => h) (Or.inl ⟨by rfl, ?_⟩) ?_ ?_
                      rotate_left
                      · intro w'
                        go_simp
                        with_reducible rfl
                      rotate_left
                      · simp only [Act.put, List.setIfInBounds_toArray, List.set_cons_zero, List.set_cons_succ, i64_w, i32_w]
                        rfl
                      refine pure_ (i := 20) (N := some 61) (v := ?_) (a' := ?_) #[true, true, true, true, true, true, true, true, true, true, true, true, true, true, true, false, true, false, false, false, true, false, false, false, false, false, false, false, false] rfl rfl (any_of HT_.out (by kernel_rfl)) (fun _ _ _ h => h) (Or.inl ⟨by rfl, ?_⟩) ?_ ?_
                      rotate_left
                      · intro w'
                        go_simp
                        with_reducible rfl
                      rotate_left
                      · simp only [Act.put, List.setIfInBounds_toArray, List.set_cons_zero, List.set_cons_succ, i64_w, i32_w]
                        rfl
                      refine pure_ (i := 22) (N := some 63) (v := ?_) (a' := ?_) #[true, true, true, true, true, true, true, true, true, true, true, true, true, true, true, false, true, false, false, false, true, false, true, false, false, false, false, false, false] rfl rfl (any_of HT_.out (by kernel_rfl)) (fun _ _ _ h => h) (Or.inl ⟨by rfl, ?_⟩) ?_ ?_
                      rotate_left
                      · intro w'
                        go_simp
                        with_reducible rfl
                      rotate_left
                      · simp only [Act.put, List.setIfInBounds_toArray, List.set_cons_zero, List.set_cons_succ, i64_w, i32_w]
                        rfl
                      refine take_ (i := 15) (N := some 56) (v := ?_) (a' := ?_) #[true, true, true, true, true, true, true, true, true, true, true, true, true, true, true, true, true, false, false, false, true, false, true, false, false, false, false, false, false] rfl rfl (take_ofW HT_.out HW_.out (by kernel_rfl)) (fun _ _ _ h => h) (Or.inl ⟨by rfl, ?_⟩) hHeld ?_ ?_
                      rotate_left
                      · rintro w' ⟨s0, s1, s2, s3, s4, s5, s6, s7, s8, s9, s10, s11, s12, s13, s14, s15, s16, s17, s18, s19, s20, s21, s22, s23, s24, s25, s26, s27, s28, s29, s30, s31, s32, s33, s34, s35, s36, s37, s38, s39⟩
                        go_simp
                        with_reducible rfl
                      rotate_left
                      · simp only [Act.put, List.setIfInBounds_toArray, List.set_cons_zero, List.set_cons_succ, i64_w, i32_w]
                        rfl
                      refine pure_ (i := 17) (N := some 58) (v := ?_) (a' := ?_) #[true, true, true, true, true, true, true, true, true, true, true, true, true, true, true, true, true, true, false, false, true, false, true, false, false, false, false, false, false] rfl rfl (any_of HT_.out (by kernel_rfl)) (fun _ _ _ h => h) (Or.inl ⟨by rfl, ?_⟩) ?_ ?_
                      rotate_left
                      · intro w'
                        go_simp
                        with_reducible rfl
                      rotate_left
                      · simp only [Act.put, List.setIfInBounds_toArray, List.set_cons_zero, List.set_cons_succ, i64_w, i32_w]
                        rfl
                      refine pure_ (i := 18) (N := some 59) (v := ?_) (a' := ?_) #[true, true, true, true, true, true, true, true, true, true, true, true, true, true, true, true, true, true, true, false, true, false, true, false, false, false, false, false, false] rfl rfl (any_of HT_.out (by kernel_rfl)) (fun _ _ _ h => h) (Or.inl ⟨by rfl, ?_⟩) ?_ ?_
                      rotate_left
                      · intro w'
                        go_simp
                        with_reducible rfl
                      rotate_left
                      · simp only [Act.put, List.setIfInBounds_toArray, List.set_cons_zero, List.set_cons_succ, i64_w, i32_w]
                        rfl
                      refine take_ (i := 19) (N := some 60) (v := ?_) (a' := ?_) #[true, true, true, true, true, true, true, true, true, true, true, true, true, true, true, true, true, true, true, true, true, false, true, false, false, false, false, false, false] rfl rfl (take_ofW HT_.out HW_.out (by kernel_rfl)) (fun _ _ _ h => h) (Or.inl ⟨by rfl, ?_⟩) hHeld ?_ ?_
                      rotate_left
                      · rintro w' ⟨s0, s1, s2, s3, s4, s5, s6, s7, s8, s9, s10, s11, s12, s13, s14, s15, s16, s17, s18, s19, s20, s21, s22, s23, s24, s25, s26, s27, s28, s29, s30, s31, s32, s33, s34, s35, s36, s37, s38, s39⟩
                        go_simp
                        with_reducible rfl
                      rotate_left
                      · simp only [Act.put, List.setIfInBounds_toArray, List.set_cons_zero, List.set_cons_succ, i64_w, i32_w]
                        rfl
                      refine take_ (i := 21) (N := some 62) (v := ?_) (a' := ?_) #[true, true, true, true, true, true, true, true, true, true, true, true, true, true, true, true, true, true, true, true, true, true, true, false, false, false, false, false, false] rfl rfl (take_ofW HT_.out HW_.out (by kernel_rfl)) (fun _ _ _ h => h) (Or.inl ⟨by rfl, ?_⟩) hHeld ?_ ?_
                      rotate_left
                      · rintro w' ⟨s0, s1, s2, s3, s4, s5, s6, s7, s8, s9, s10, s11, s12, s13, s14, s15, s16, s17, s18, s19, s20, s21, s22, s23, s24, s25, s26, s27, s28, s29, s30, s31, s32, s33, s34, s35, s36, s37, s38, s39⟩
                        go_simp
                        with_reducible rfl
                      rotate_left
                      · simp only [Act.put, List.setIfInBounds_toArray, List.set_cons_zero, List.set_cons_succ, i64_w, i32_w]
                        rfl
                      refine pure_ (i := 23) (N := some 64) (v := ?_) (a' := ?_) #[true, true, true, true, true, true, true, true, true, true, true, true, true, true, true, true, true, true, true, true, true, true, true, true, false, false, false, false, false] rfl rfl (any_of HT_.out (by kernel_rfl)) (fun _ _ _ h => h) (Or.inl ⟨by rfl, ?_⟩) ?_ ?_
                      rotate_left
                      · intro w'
                        go_simp
                        with_reducible rfl
                      rotate_left
                      · simp only [Act.put, List.setIfInBounds_toArray, List.set_cons_zero, List.set_cons_succ, i64_w, i32_w]
                        rfl
                      refine pure_ (i := 24) (N := some 65) (v := ?_) (a' := ?_) #[true, true, true, true, true, true, true, true, true, true, true, true, true, true, true, true, true, true, true, true, true, true, true, true, true, false, false, false, false] rfl rfl (any_of HT_.out (by kernel_rfl)) (fun _ _ _ h => h) (Or.inl ⟨by rfl, ?_⟩) ?_ ?_
                      rotate_left
                      · intro w'
                        go_simp
                        with_reducible rfl
                      rotate_left
                      · simp only [Act.put, List.setIfInBounds_toArray, List.set_cons_zero, List.set_cons_succ, i64_w, i32_w]
                        rfl
                      refine take_ (i := 25) (N := some 66) (v := ?_) (a' := ?_) #[true, true, true, true, true, true, true, true, true, true, true, true, true, true, true, true, true, true, true, true, true, true, true, true, true, true, false, false, false] rfl rfl (take_ofW HT_.out HW_.out (by kernel_rfl)) (fun _ _ _ h => h) (Or.inl ⟨by rfl, ?_⟩) hHeld ?_ ?_
                      rotate_left
                      · rintro w' ⟨s0, s1, s2, s3, s4, s5, s6, s7, s8, s9, s10, s11, s12, s13, s14, s15, s16, s17, s18, s19, s20, s21, s22, s23, s24, s25, s26, s27, s28, s29, s30, s31, s32, s33, s34, s35, s36, s37, s38, s39⟩
                        go_simp
                        with_reducible rfl
                      rotate_left
                      · simp only [Act.put, List.setIfInBounds_toArray, List.set_cons_zero, List.set_cons_succ, i64_w, i32_w]
                        rfl
                      refine one_ (i := 26) (N := some 67) #[true, true, true, true, true, true, true, true, true, true, true, true, true, true, true, true, true, true, true, true, true, true, true, true, true, true, true, false, false] rfl rfl (one_of HT_.out (by kernel_rfl)) (by decide) (fun K hK => ?_)
                      refine goes_ Try.func101 (by kernel_rfl) rfl #[.agg #[.string ((rd_T131 l0_2 x5_2).f0.f0), .slice A264_1 ((rd_T131 l0_2 x5_2).f0.f1).length c264_1, .int .i64 ((rd_T131 l0_2 x5_2).f0.f2.f0), .slice A264_3 ((rd_T131 l0_2 x5_2).f0.f2.f1).length c264_3, .string ((rd_T131 l0_2 x5_2).f0.f2.f2), .int .i64 ((rd_T131 l0_2 x5_2).f0.f3), .int .i64 ((rd_T131 l0_2 x5_2).f0.f4)], .agg #[.string ((rd_T131 l1_2 x5_2).f0.f0), .slice A265_1 ((rd_T131 l1_2 x5_2).f0.f1).length c265_1, .int .i64 ((rd_T131 l1_2 x5_2).f0.f2.f0), .slice A265_3 ((rd_T131 l1_2 x5_2).f0.f2.f1).length c265_3, .string ((rd_T131 l1_2 x5_2).f0.f2.f2), .int .i64 ((rd_T131 l1_2 x5_2).f0.f3), .int .i64 ((rd_T131 l1_2 x5_2).f0.f4)]] (by rfl) rfl rfl Kit.am ?_
                      with_reducible refine (spec_l12SameItem.calls k2 ((rd_T131 l0_2 x5_2).f0.f0) _ _ ((rd_T131 l0_2 x5_2).f0.f1) ((rd_T131 l0_2 x5_2).f0.f2.f0) _ _ ((rd_T131 l0_2 x5_2).f0.f2.f1) ((rd_T131 l0_2 x5_2).f0.f2.f2) ((rd_T131 l0_2 x5_2).f0.f3) ((rd_T131 l0_2 x5_2).f0.f4) ((rd_T131 l1_2 x5_2).f0.f0) _ _ ((rd_T131 l1_2 x5_2).f0.f1) ((rd_T131 l1_2 x5_2).f0.f2.f0) _ _ ((rd_T131 l1_2 x5_2).f0.f2.f1) ((rd_T131 l1_2 x5_2).f0.f2.f2) ((rd_T131 l1_2 x5_2).f0.f3) ((rd_T131 l1_2 x5_2).f0.f4) true _ ?side1 ?side2 ?side3 ?side4 ?side5 ?side6 ?side7 ?side8 A29.out).mono ?_
                      (case side1 => exact Kit.cr HR266_1.out HB.out)
                      (case side2 => exact HC266_1.out)
                      (case side3 => exact Kit.cr HR266_3.out HB.out)
                      (case side4 => exact HC266_3.out)
                      (case side5 => exact Kit.cr HR267_1.out HB.out)
                      (case side6 => exact HC267_1.out)
                      (case side7 => exact Kit.cr HR267_3.out HB.out)
                      (case side8 => exact HC267_3.out)
                      rintro e w34 ⟨rfl, hb⟩
                      refine ⟨_, rfl, ?_⟩
                      replace BK262 := Kit.bB BK262 hb
                      replace BK263 := Kit.bB BK263 hb
                      replace HB := Kit.hB hb
                      (try clear hb)
                      (try clear hb2)
                      (try clear hk)
                      (try clear hi)
                      refine hK.out _ _ ⟨(blk_cell BK262.out 0).trans rfl, (blk_cell BK262.out 1).trans rfl, (blk_cell BK262.out 2).trans rfl, (blk_cell BK262.out 3).trans rfl, (blk_cell BK263.out 0).trans rfl, (blk_cell BK263.out 1).trans rfl, (blk_cell BK263.out 2).trans rfl, (blk_cell BK263.out 3).trans rfl, (Kit.hx HB.out hw264_0), (Kit.hx HB.out hw264_1), (Kit.hx HB.out hw264_2), (Kit.hx HB.out hw264_3), (Kit.hx HB.out hw264_4), (Kit.hx HB.out hw264_5), (Kit.hx HB.out hw264_6), (Kit.hx HB.out hw264_7), (Kit.hx HB.out hw265_0), (Kit.hx HB.out hw265_1), (Kit.hx HB.out hw265_2), (Kit.hx HB.out hw265_3), (Kit.hx HB.out hw265_4), (Kit.hx HB.out hw265_5), (Kit.hx HB.out hw265_6), (Kit.hx HB.out hw265_7), (Kit.hx HB.out hw266_0), (Kit.hx HB.out hw266_1), (Kit.hx HB.out hw266_2), (Kit.hx HB.out hw266_3), (Kit.hx HB.out hw266_4), (Kit.hx HB.out hw266_5), (Kit.hx HB.out hw266_6), (Kit.hx HB.out hw266_7), (Kit.hx HB.out hw267_0), (Kit.hx HB.out hw267_1), (Kit.hx HB.out hw267_2), (Kit.hx HB.out hw267_3), (Kit.hx HB.out hw267_4), (Kit.hx HB.out hw267_5), (Kit.hx HB.out hw267_6), (Kit.hx HB.out hw267_7)⟩ (fun hHeld => ?_)
                      clear hK K
                      refine norm_ (a' := ?_) ?_ ?_
                      rotate_left
                      · show Act.put _ (some 67) _ = _
                        simp only [Act.put, List.setIfInBounds_toArray, List.set_cons_zero, List.set_cons_succ, i64_w, i32_w]
                        rfl
                      refine pure_ (i := 27) (N := some 68) (v := ?_) (a' := ?_) #[true, true, true, true, true, true, true, true, true, true, true, true, true, true, true, true, true, true, true, true, true, true, true, true, true, true, true, true, false] rfl rfl (any_of HT_.out (by kernel_rfl)) (fun _ _ _ h => h) (Or.inl ⟨by rfl, ?_⟩) ?_ ?_
                      rotate_left
                      · intro w'
                        go_simp
                        with_reducible rfl
                      rotate_left
                      · simp only [Act.put, List.setIfInBounds_toArray, List.set_cons_zero, List.set_cons_succ, i64_w, i32_w]
                        rfl
                      refine pure_ (i := 28) (N := some 69) (v := ?_) (a' := ?_) #[true, true, true, true, true, true, true, true, true, true, true, true, true, true, true, true, true, true, true, true, true, true, true, true, true, true, true, true, true] rfl rfl (any_of HT_.out (by kernel_rfl)) (fun _ _ _ h => h) (Or.inl ⟨by rfl, ?_⟩) ?_ ?_
                      rotate_left
                      · intro w'
                        go_simp
                        with_reducible rfl
                      rotate_left
                      · simp only [Act.put, List.setIfInBounds_toArray, List.set_cons_zero, List.set_cons_succ, i64_w, i32_w]
                        rfl
                      refine done_ (done_of HT_.out (by kernel_rfl)) ?_
                      try go_wp2
                      go_roundg k2
                      case measure => have := HJ2.out; have := HK2.out; omega
                      case rel => exact ⟨(wrap64 (x5_2 + 1)), (by first | rfl | (simp; done) | (simp [*]; done)), H', ⟨by have := HJ2.out; have := HK2.out; omega⟩, ⟨by (with_reducible repeat (first | refine blk_drewN ?_ _ | refine blk_drew ?_ | refine blk_alloc ?_ _)); exact BK262.out⟩, ⟨by (with_reducible repeat (first | refine blk_drewN ?_ _ | refine blk_drew ?_ | refine blk_alloc ?_ _)); exact BK263.out⟩, ⟨Kit.bl⟩⟩
                    · replace c30 := Bool.eq_false_iff.mpr c30
                      subst c30
                      have H1 : (some false) = some r := by rw [if_neg (show ¬ (false = true) by decide)] at H; exact H
                      clear H
                      have H := H1
                      clear H1
                      obtain rfl := Option.some.inj H
                      have hnb35 := NB262_263.out
                      have hnc35 := NB263_262.out
                      have hcz36_0 : wr.cell? ⟨gb262, 0, none⟩ = some (.int .i64 a0_0) := (blk_cell BK262.out 0).trans rfl
                      have hcz36_1 : wr.cell? ⟨gb262, 1, none⟩ = some (.int .i64 a0_1) := (blk_cell BK262.out 1).trans rfl
                      have hcz36_2 : wr.cell? ⟨gb262, 2, none⟩ = some (.slice A0_2 l0_2.length c0_2) := (blk_cell BK262.out 2).trans rfl
                      have hcz36_3 : wr.cell? ⟨gb262, 3, none⟩ = some (.int .i64 a0_3) := (blk_cell BK262.out 3).trans rfl
                      have hfz36_0 := blk_frozen BK262.out 0
                      have hfz36_1 := blk_frozen BK262.out 1
                      have hfz36_2 := blk_frozen BK262.out 2
                      have hfz36_3 := blk_frozen BK262.out 3
                      try go_wp2
                      replace BK262 := Aside0.mk (blk_drew BK262.out)
                      replace BK263 := Aside0.mk (blk_drew BK263.out)
                      replace HB := Aside0.mk (below_drew1 HB.out)
                      have p264 : 0 ≤ (x5_2 : Int) := of_decide_eq_true Kit.asm
                      have q264 : x5_2 < (l0_2.length : Int) := of_decide_eq_true Kit.asm
                      obtain ⟨ad264, A264_1, c264_1, A264_3, c264_3, e264, hx264_0, hx264_1, hx264_2, hx264_3, hx264_4, hx264_5, hx264_6, hx264_7, hl264_1, hi264_1, hl264_3, hi264_3⟩ := at_T131 HR0_2.out x5_2 p264 q264
                      have hw264_7 := hx264_7
                      have hw264_6 := hx264_6
                      have hw264_5 := hx264_5
                      have hw264_4 := hx264_4
                      have hw264_3 := hx264_3
                      have hw264_2 := hx264_2
                      have hw264_1 := hx264_1
                      have hw264_0 := hx264_0
                      cases e264
                      replace hx264_0 := Kit.hx HB.out hx264_0
                      replace hx264_1 := Kit.hx HB.out hx264_1
                      replace hx264_2 := Kit.hx HB.out hx264_2
                      replace hx264_3 := Kit.hx HB.out hx264_3
                      replace hx264_4 := Kit.hx HB.out hx264_4
                      replace hx264_5 := Kit.hx HB.out hx264_5
                      replace hx264_6 := Kit.hx HB.out hx264_6
                      replace hx264_7 := Kit.hx HB.out hx264_7
                      have HR264_1 := Aside0.mk hi264_1
                      have HC264_1 := Aside0.mk hl264_1
                      clear hi264_1 hl264_1
                      have HR264_3 := Aside0.mk hi264_3
                      have HC264_3 := Aside0.mk hl264_3
                      clear hi264_3 hl264_3
                      replace p264 := eq_true p264
                      replace q264 := eq_true q264
                      have p265 : 0 ≤ (x5_2 : Int) := of_decide_eq_true Kit.asm
                      have q265 : x5_2 < (l1_2.length : Int) := of_decide_eq_true Kit.asm
                      obtain ⟨ad265, A265_1, c265_1, A265_3, c265_3, e265, hx265_0, hx265_1, hx265_2, hx265_3, hx265_4, hx265_5, hx265_6, hx265_7, hl265_1, hi265_1, hl265_3, hi265_3⟩ := at_T131 HR1_2.out x5_2 p265 q265
                      have hw265_7 := hx265_7
                      have hw265_6 := hx265_6
                      have hw265_5 := hx265_5
                      have hw265_4 := hx265_4
                      have hw265_3 := hx265_3
                      have hw265_2 := hx265_2
                      have hw265_1 := hx265_1
                      have hw265_0 := hx265_0
                      cases e265
                      replace hx265_0 := Kit.hx HB.out hx265_0
                      replace hx265_1 := Kit.hx HB.out hx265_1
                      replace hx265_2 := Kit.hx HB.out hx265_2
                      replace hx265_3 := Kit.hx HB.out hx265_3
                      replace hx265_4 := Kit.hx HB.out hx265_4
                      replace hx265_5 := Kit.hx HB.out hx265_5
                      replace hx265_6 := Kit.hx HB.out hx265_6
                      replace hx265_7 := Kit.hx HB.out hx265_7
                      have HR265_1 := Aside0.mk hi265_1
                      have HC265_1 := Aside0.mk hl265_1
                      clear hi265_1 hl265_1
                      have HR265_3 := Aside0.mk hi265_3
                      have HC265_3 := Aside0.mk hl265_3
                      clear hi265_3 hl265_3
                      replace p265 := eq_true p265
                      replace q265 := eq_true q265
                      have p266 : 0 ≤ (x5_2 : Int) := of_decide_eq_true Kit.asm
                      have q266 : x5_2 < (l0_2.length : Int) := of_decide_eq_true Kit.asm
                      obtain ⟨ad266, A266_1, c266_1, A266_3, c266_3, e266, hx266_0, hx266_1, hx266_2, hx266_3, hx266_4, hx266_5, hx266_6, hx266_7, hl266_1, hi266_1, hl266_3, hi266_3⟩ := at_T131 HR0_2.out x5_2 p266 q266
                      have hw266_7 := hx266_7
                      have hw266_6 := hx266_6
                      have hw266_5 := hx266_5
                      have hw266_4 := hx266_4
                      have hw266_3 := hx266_3
                      have hw266_2 := hx266_2
                      have hw266_1 := hx266_1
                      have hw266_0 := hx266_0
                      obtain rfl : ad264 = ad266 := (by injection e266)
                      replace hx266_0 := Kit.hx HB.out hx266_0
                      replace hx266_1 := Kit.hx HB.out hx266_1
                      replace hx266_2 := Kit.hx HB.out hx266_2
                      replace hx266_3 := Kit.hx HB.out hx266_3
                      replace hx266_4 := Kit.hx HB.out hx266_4
                      replace hx266_5 := Kit.hx HB.out hx266_5
                      replace hx266_6 := Kit.hx HB.out hx266_6
                      replace hx266_7 := Kit.hx HB.out hx266_7
                      have HR266_1 := Aside0.mk hi266_1
                      have HC266_1 := Aside0.mk hl266_1
                      clear hi266_1 hl266_1
                      have HR266_3 := Aside0.mk hi266_3
                      have HC266_3 := Aside0.mk hl266_3
                      clear hi266_3 hl266_3
                      replace p266 := eq_true p266
                      replace q266 := eq_true q266
                      have ea_ := Option.some.inj (hx264_1.symm.trans hx266_1)
                      injection ea_ with ea_ en_ ec_
                      subst ea_
                      subst ec_
                      clear en_
                      have ea_ := Option.some.inj (hx264_3.symm.trans hx266_3)
                      injection ea_ with ea_ en_ ec_
                      subst ea_
                      subst ec_
                      clear en_
                      have p267 : 0 ≤ (x5_2 : Int) := of_decide_eq_true Kit.asm
                      have q267 : x5_2 < (l1_2.length : Int) := of_decide_eq_true Kit.asm
                      obtain ⟨ad267, A267_1, c267_1, A267_3, c267_3, e267, hx267_0, hx267_1, hx267_2, hx267_3, hx267_4, hx267_5, hx267_6, hx267_7, hl267_1, hi267_1, hl267_3, hi267_3⟩ := at_T131 HR1_2.out x5_2 p267 q267
                      have hw267_7 := hx267_7
                      have hw267_6 := hx267_6
                      have hw267_5 := hx267_5
                      have hw267_4 := hx267_4
                      have hw267_3 := hx267_3
                      have hw267_2 := hx267_2
                      have hw267_1 := hx267_1
                      have hw267_0 := hx267_0
                      obtain rfl : ad265 = ad267 := (by injection e267)
                      replace hx267_0 := Kit.hx HB.out hx267_0
                      replace hx267_1 := Kit.hx HB.out hx267_1
                      replace hx267_2 := Kit.hx HB.out hx267_2
                      replace hx267_3 := Kit.hx HB.out hx267_3
                      replace hx267_4 := Kit.hx HB.out hx267_4
                      replace hx267_5 := Kit.hx HB.out hx267_5
                      replace hx267_6 := Kit.hx HB.out hx267_6
                      replace hx267_7 := Kit.hx HB.out hx267_7
                      have HR267_1 := Aside0.mk hi267_1
                      have HC267_1 := Aside0.mk hl267_1
                      clear hi267_1 hl267_1
                      have HR267_3 := Aside0.mk hi267_3
                      have HC267_3 := Aside0.mk hl267_3
                      clear hi267_3 hl267_3
                      replace p267 := eq_true p267
                      replace q267 := eq_true q267
                      have ea_ := Option.some.inj (hx265_1.symm.trans hx267_1)
                      injection ea_ with ea_ en_ ec_
                      subst ea_
                      subst ec_
                      clear en_
                      have ea_ := Option.some.inj (hx265_3.symm.trans hx267_3)
                      injection ea_ with ea_ en_ ec_
                      subst ea_
                      subst ec_
                      clear en_
                      refine start_ (n := 29) (S := fun w' => w'.cell? ⟨gb262, 0, none⟩ = some (.int .i64 a0_0) ∧ w'.cell? ⟨gb262, 1, none⟩ = some (.int .i64 a0_1) ∧ w'.cell? ⟨gb262, 2, none⟩ = some (.slice (some ad264) l0_2.length c0_2) ∧ w'.cell? ⟨gb262, 3, none⟩ = some (.int .i64 a0_3) ∧ w'.cell? ⟨gb263, 0, none⟩ = some (.int .i64 a1_0) ∧ w'.cell? ⟨gb263, 1, none⟩ = some (.int .i64 a1_1) ∧ w'.cell? ⟨gb263, 2, none⟩ = some (.slice (some ad265) l1_2.length c1_2) ∧ w'.cell? ⟨gb263, 3, none⟩ = some (.int .i64 a1_3) ∧ w'.cell? (ad264.add ((x5_2).toNat * 8)) = some (.string ((rd_T131 l0_2 x5_2).f0.f0)) ∧ w'.cell? ⟨(ad264.add ((x5_2).toNat * 8)).block, (ad264.add ((x5_2).toNat * 8)).off + 1, none⟩ = some (.slice A264_1 ((rd_T131 l0_2 x5_2).f0.f1).length c264_1) ∧ w'.cell? ⟨(ad264.add ((x5_2).toNat * 8)).block, (ad264.add ((x5_2).toNat * 8)).off + 2, none⟩ = some (.int .i64 ((rd_T131 l0_2 x5_2).f0.f2.f0)) ∧ w'.cell? ⟨(ad264.add ((x5_2).toNat * 8)).block, (ad264.add ((x5_2).toNat * 8)).off + 3, none⟩ = some (.slice A264_3 ((rd_T131 l0_2 x5_2).f0.f2.f1).length c264_3) ∧ w'.cell? ⟨(ad264.add ((x5_2).toNat * 8)).block, (ad264.add ((x5_2).toNat * 8)).off + 4, none⟩ = some (.string ((rd_T131 l0_2 x5_2).f0.f2.f2)) ∧ w'.cell? ⟨(ad264.add ((x5_2).toNat * 8)).block, (ad264.add ((x5_2).toNat * 8)).off + 5, none⟩ = some (.int .i64 ((rd_T131 l0_2 x5_2).f0.f3)) ∧ w'.cell? ⟨(ad264.add ((x5_2).toNat * 8)).block, (ad264.add ((x5_2).toNat * 8)).off + 6, none⟩ = some (.int .i64 ((rd_T131 l0_2 x5_2).f0.f4)) ∧ w'.cell? ⟨(ad264.add ((x5_2).toNat * 8)).block, (ad264.add ((x5_2).toNat * 8)).off + 7, none⟩ = some (.bool ((rd_T131 l0_2 x5_2).f1)) ∧ w'.cell? (ad265.add ((x5_2).toNat * 8)) = some (.string ((rd_T131 l1_2 x5_2).f0.f0)) ∧ w'.cell? ⟨(ad265.add ((x5_2).toNat * 8)).block, (ad265.add ((x5_2).toNat * 8)).off + 1, none⟩ = some (.slice A265_1 ((rd_T131 l1_2 x5_2).f0.f1).length c265_1) ∧ w'.cell? ⟨(ad265.add ((x5_2).toNat * 8)).block, (ad265.add ((x5_2).toNat * 8)).off + 2, none⟩ = some (.int .i64 ((rd_T131 l1_2 x5_2).f0.f2.f0)) ∧ w'.cell? ⟨(ad265.add ((x5_2).toNat * 8)).block, (ad265.add ((x5_2).toNat * 8)).off + 3, none⟩ = some (.slice A265_3 ((rd_T131 l1_2 x5_2).f0.f2.f1).length c265_3) ∧ w'.cell? ⟨(ad265.add ((x5_2).toNat * 8)).block, (ad265.add ((x5_2).toNat * 8)).off + 4, none⟩ = some (.string ((rd_T131 l1_2 x5_2).f0.f2.f2)) ∧ w'.cell? ⟨(ad265.add ((x5_2).toNat * 8)).block, (ad265.add ((x5_2).toNat * 8)).off + 5, none⟩ = some (.int .i64 ((rd_T131 l1_2 x5_2).f0.f3)) ∧ w'.cell? ⟨(ad265.add ((x5_2).toNat * 8)).block, (ad265.add ((x5_2).toNat * 8)).off + 6, none⟩ = some (.int .i64 ((rd_T131 l1_2 x5_2).f0.f4)) ∧ w'.cell? ⟨(ad265.add ((x5_2).toNat * 8)).block, (ad265.add ((x5_2).toNat * 8)).off + 7, none⟩ = some (.bool ((rd_T131 l1_2 x5_2).f1)) ∧ w'.cell? (ad264.add ((x5_2).toNat * 8)) = some (.string ((rd_T131 l0_2 x5_2).f0.f0)) ∧ w'.cell? ⟨(ad264.add ((x5_2).toNat * 8)).block, (ad264.add ((x5_2).toNat * 8)).off + 1, none⟩ = some (.slice A264_1 ((rd_T131 l0_2 x5_2).f0.f1).length c264_1) ∧ w'.cell? ⟨(ad264.add ((x5_2).toNat * 8)).block, (ad264.add ((x5_2).toNat * 8)).off + 2, none⟩ = some (.int .i64 ((rd_T131 l0_2 x5_2).f0.f2.f0)) ∧ w'.cell? ⟨(ad264.add ((x5_2).toNat * 8)).block, (ad264.add ((x5_2).toNat * 8)).off + 3, none⟩ = some (.slice A264_3 ((rd_T131 l0_2 x5_2).f0.f2.f1).length c264_3) ∧ w'.cell? ⟨(ad264.add ((x5_2).toNat * 8)).block, (ad264.add ((x5_2).toNat * 8)).off + 4, none⟩ = some (.string ((rd_T131 l0_2 x5_2).f0.f2.f2)) ∧ w'.cell? ⟨(ad264.add ((x5_2).toNat * 8)).block, (ad264.add ((x5_2).toNat * 8)).off + 5, none⟩ = some (.int .i64 ((rd_T131 l0_2 x5_2).f0.f3)) ∧ w'.cell? ⟨(ad264.add ((x5_2).toNat * 8)).block, (ad264.add ((x5_2).toNat * 8)).off + 6, none⟩ = some (.int .i64 ((rd_T131 l0_2 x5_2).f0.f4)) ∧ w'.cell? ⟨(ad264.add ((x5_2).toNat * 8)).block, (ad264.add ((x5_2).toNat * 8)).off + 7, none⟩ = some (.bool ((rd_T131 l0_2 x5_2).f1)) ∧ w'.cell? (ad265.add ((x5_2).toNat * 8)) = some (.string ((rd_T131 l1_2 x5_2).f0.f0)) ∧ w'.cell? ⟨(ad265.add ((x5_2).toNat * 8)).block, (ad265.add ((x5_2).toNat * 8)).off + 1, none⟩ = some (.slice A265_1 ((rd_T131 l1_2 x5_2).f0.f1).length c265_1) ∧ w'.cell? ⟨(ad265.add ((x5_2).toNat * 8)).block, (ad265.add ((x5_2).toNat * 8)).off + 2, none⟩ = some (.int .i64 ((rd_T131 l1_2 x5_2).f0.f2.f0)) ∧ w'.cell? ⟨(ad265.add ((x5_2).toNat * 8)).block, (ad265.add ((x5_2).toNat * 8)).off + 3, none⟩ = some (.slice A265_3 ((rd_T131 l1_2 x5_2).f0.f2.f1).length c265_3) ∧ w'.cell? ⟨(ad265.add ((x5_2).toNat * 8)).block, (ad265.add ((x5_2).toNat * 8)).off + 4, none⟩ = some (.string ((rd_T131 l1_2 x5_2).f0.f2.f2)) ∧ w'.cell? ⟨(ad265.add ((x5_2).toNat * 8)).block, (ad265.add ((x5_2).toNat * 8)).off + 5, none⟩ = some (.int .i64 ((rd_T131 l1_2 x5_2).f0.f3)) ∧ w'.cell? ⟨(ad265.add ((x5_2).toNat * 8)).block, (ad265.add ((x5_2).toNat * 8)).off + 6, none⟩ = some (.int .i64 ((rd_T131 l1_2 x5_2).f0.f4)) ∧ w'.cell? ⟨(ad265.add ((x5_2).toNat * 8)).block, (ad265.add ((x5_2).toNat * 8)).off + 7, none⟩ = some (.bool ((rd_T131 l1_2 x5_2).f1))) (ds := []) #[false, false, false, false, false, false, false, false, false, false, false, false, false, false, false, false, false, false, false, false, false, false, false, false, false, false, false, false, false] (by kernel_rfl) rfl rfl ⟨(blk_cell BK262.out 0).trans rfl, (blk_cell BK262.out 1).trans rfl, (blk_cell BK262.out 2).trans rfl, (blk_cell BK262.out 3).trans rfl, (blk_cell BK263.out 0).trans rfl, (blk_cell BK263.out 1).trans rfl, (blk_cell BK263.out 2).trans rfl, (blk_cell BK263.out 3).trans rfl, (Kit.hx HB.out hw264_0), (Kit.hx HB.out hw264_1), (Kit.hx HB.out hw264_2), (Kit.hx HB.out hw264_3), (Kit.hx HB.out hw264_4), (Kit.hx HB.out hw264_5), (Kit.hx HB.out hw264_6), (Kit.hx HB.out hw264_7), (Kit.hx HB.out hw265_0), (Kit.hx HB.out hw265_1), (Kit.hx HB.out hw265_2), (Kit.hx HB.out hw265_3), (Kit.hx HB.out hw265_4), (Kit.hx HB.out hw265_5), (Kit.hx HB.out hw265_6), (Kit.hx HB.out hw265_7), (Kit.hx HB.out hw266_0), (Kit.hx HB.out hw266_1), (Kit.hx HB.out hw266_2), (Kit.hx HB.out hw266_3), (Kit.hx HB.out hw266_4), (Kit.hx HB.out hw266_5), (Kit.hx HB.out hw266_6), (Kit.hx HB.out hw266_7), (Kit.hx HB.out hw267_0), (Kit.hx HB.out hw267_1), (Kit.hx HB.out hw267_2), (Kit.hx HB.out hw267_3), (Kit.hx HB.out hw267_4), (Kit.hx HB.out hw267_5), (Kit.hx HB.out hw267_6), (Kit.hx HB.out hw267_7)⟩ (fun hHeld => ?_); refine with_tabW spec_SameShard.tab6 spec_SameShard.bits6 (fun HT_ HW_ => ?_)
                      generalize wr.drew = w37 at BK262 BK263 HB HR264_1 HR264_3 HR265_1 HR265_3 HR266_1 HR266_3 HR267_1 HR267_3 hx264_0 hx264_1 hx264_2 hx264_3 hx264_4 hx264_5 hx264_6 hx264_7 hx265_0 hx265_1 hx265_2 hx265_3 hx265_4 hx265_5 hx265_6 hx265_7 hx266_0 hx266_1 hx266_2 hx266_3 hx266_4 hx266_5 hx266_6 hx266_7 hx267_0 hx267_1 hx267_2 hx267_3 hx267_4 hx267_5 hx267_6 hx267_7 hHeld ⊢
                      refine pure_ (i := 0) (N := some 41) (v := ?_) (a' := ?_) #[true, false, false, false, false, false, false, false, false, false, false, false, false, false, false, false, false, false, false, false, false, false, false, false, false, false, false, false, false] rfl rfl (any_of HT_.out (by kernel_rfl)) (fun _ _ _ h => h) (Or.inl ⟨by rfl, ?_⟩) ?_ ?_
                      rotate_left
                      · intro w'
                        go_simp
                        with_reducible rfl
                      rotate_left
                      · simp only [Act.put, List.setIfInBounds_toArray, List.set_cons_zero, List.set_cons_succ, i64_w, i32_w]
                        rfl
                      refine pure_ (i := 2) (N := some 43) (v := ?_) (a' := ?_) #[true, false, true, false, false, false, false, false, false, false, false, false, false, false, false, false, false, false, false, false, false, false, false, false, false, false, false, false, false] rfl rfl (any_of HT_.out (by kernel_rfl)) (fun _ _ _ h => h) (Or.inl ⟨by rfl, ?_⟩) ?_ ?_
                      rotate_left
                      · intro w'
                        go_simp
                        with_reducible rfl
                      rotate_left
                      · simp only [Act.put, List.setIfInBounds_toArray, List.set_cons_zero, List.set_cons_succ, i64_w, i32_w]
                        rfl
                      refine pure_ (i := 6) (N := some 47) (v := ?_) (a' := ?_) #[true, false, true, false, false, false, true, false, false, false, false, false, false, false, false, false, false, false, false, false, false, false, false, false, false, false, false, false, false] rfl rfl (any_of HT_.out (by kernel_rfl)) (fun _ _ _ h => h) (Or.inl ⟨by rfl, ?_⟩) ?_ ?_
                      rotate_left
                      · intro w'
                        go_simp
                        with_reducible rfl
                      rotate_left
                      · simp only [Act.put, List.setIfInBounds_toArray, List.set_cons_zero, List.set_cons_succ, i64_w, i32_w]
                        rfl
                      refine pure_ (i := 8) (N := some 49) (v := ?_) (a' := ?_) #[true, false, true, false, false, false, true, false, true, false, false, false, false, false, false, false, false, false, false, false, false, false, false, false, false, false, false, false, false] rfl rfl (any_of HT_.out (by kernel_rfl)) (fun _ _ _ h => h) (Or.inl ⟨by rfl, ?_⟩) ?_ ?_
                      rotate_left
                      · intro w'
                        go_simp
                        with_reducible rfl
                      rotate_left
                      · simp only [Act.put, List.setIfInBounds_toArray, List.set_cons_zero, List.set_cons_succ, i64_w, i32_w]
                        rfl
                      refine take_ (i := 1) (N := some 42) (v := ?_) (a' := ?_) #[true, true, true, false, false, false, true, false, true, false, false, false, false, false, false, false, false, false, false, false, false, false, false, false, false, false, false, false, false] rfl rfl (take_ofW HT_.out HW_.out (by kernel_rfl)) (fun _ _ _ h => h) (Or.inl ⟨by rfl, ?_⟩) hHeld ?_ ?_
                      rotate_left
                      · rintro w' ⟨s0, s1, s2, s3, s4, s5, s6, s7, s8, s9, s10, s11, s12, s13, s14, s15, s16, s17, s18, s19, s20, s21, s22, s23, s24, s25, s26, s27, s28, s29, s30, s31, s32, s33, s34, s35, s36, s37, s38, s39⟩
                        go_simp
                        with_reducible rfl
                      rotate_left
                      · simp only [Act.put, List.setIfInBounds_toArray, List.set_cons_zero, List.set_cons_succ, i64_w, i32_w]
                        rfl
                      refine pure_ (i := 3) (N := some 44) (v := ?_) (a' := ?_) #[true, true, true, true, false, false, true, false, true, false, false, false, false, false, false, false, false, false, false, false, false, false, false, false, false, false, false, false, false] rfl rfl (any_of HT_.out (by kernel_rfl)) (fun _ _ _ h => h) (Or.inl ⟨by rfl, ?_⟩) ?_ ?_
                      rotate_left
                      · intro w'
                        go_simp
                        with_reducible rfl
                      rotate_left
                      · simp only [Act.put, List.setIfInBounds_toArray, List.set_cons_zero, List.set_cons_succ, i64_w, i32_w]
                        rfl
                      refine pure_ (i := 4) (N := some 45) (v := ?_) (a' := ?_) #[true, true, true, true, true, false, true, false, true, false, false, false, false, false, false, false, false, false, false, false, false, false, false, false, false, false, false, false, false] rfl rfl (any_of HT_.out (by kernel_rfl)) (fun _ _ _ h => h) (Or.inl ⟨by rfl, ?_⟩) ?_ ?_
                      rotate_left
                      · intro w'
                        go_simp
                        with_reducible rfl
                      rotate_left
                      · simp only [Act.put, List.setIfInBounds_toArray, List.set_cons_zero, List.set_cons_succ, i64_w, i32_w]
                        rfl
                      refine take_ (i := 5) (N := some 46) (v := ?_) (a' := ?_) #[true, true, true, true, true, true, true, false, true, false, false, false, false, false, false, false, false, false, false, false, false, false, false, false, false, false, false, false, false] rfl rfl (take_ofW HT_.out HW_.out (by kernel_rfl)) (fun _ _ _ h => h) (Or.inl ⟨by rfl, ?_⟩) hHeld ?_ ?_
                      rotate_left
                      · rintro w' ⟨s0, s1, s2, s3, s4, s5, s6, s7, s8, s9, s10, s11, s12, s13, s14, s15, s16, s17, s18, s19, s20, s21, s22, s23, s24, s25, s26, s27, s28, s29, s30, s31, s32, s33, s34, s35, s36, s37, s38, s39⟩
                        go_simp
                        with_reducible rfl
                      rotate_left
                      · simp only [Act.put, List.setIfInBounds_toArray, List.set_cons_zero, List.set_cons_succ, i64_w, i32_w]
                        rfl
                      refine take_ (i := 7) (N := some 48) (v := ?_) (a' := ?_) #[true, true, true, true, true, true, true, true, true, false, false, false, false, false, false, false, false, false, false, false, false, false, false, false, false, false, false, false, false] rfl rfl (take_ofW HT_.out HW_.out (by kernel_rfl)) (fun _ _ _ h => h) (Or.inl ⟨by rfl, ?_⟩) hHeld ?_ ?_
                      rotate_left
                      · rintro w' ⟨s0, s1, s2, s3, s4, s5, s6, s7, s8, s9, s10, s11, s12, s13, s14, s15, s16, s17, s18, s19, s20, s21, s22, s23, s24, s25, s26, s27, s28, s29, s30, s31, s32, s33, s34, s35, s36, s37, s38, s39⟩
                        go_simp
                        with_reducible rfl
                      rotate_left
                      · simp only [Act.put, List.setIfInBounds_toArray, List.set_cons_zero, List.set_cons_succ, i64_w, i32_w]
                        rfl
                      refine pure_ (i := 9) (N := some 50) (v := ?_) (a' := ?_) #[true, true, true, true, true, true, true, true, true, true, false, false, false, false, false, false, false, false, false, false, false, false, false, false, false, false, false, false, false] rfl rfl (any_of HT_.out (by kernel_rfl)) (fun _ _ _ h => h) (Or.inl ⟨by rfl, ?_⟩) ?_ ?_
                      rotate_left
                      · intro w'
                        go_simp
                        with_reducible rfl
                      rotate_left
                      · simp only [Act.put, List.setIfInBounds_toArray, List.set_cons_zero, List.set_cons_succ, i64_w, i32_w]
                        rfl
                      refine pure_ (i := 10) (N := some 51) (v := ?_) (a' := ?_) #[true, true, true, true, true, true, true, true, true, true, true, false, false, false, false, false, false, false, false, false, false, false, false, false, false, false, false, false, false] rfl rfl (any_of HT_.out (by kernel_rfl)) (fun _ _ _ h => h) (Or.inl ⟨by rfl, ?_⟩) ?_ ?_
                      rotate_left
                      · intro w'
                        go_simp
                        with_reducible rfl
                      rotate_left
                      · simp only [Act.put, List.setIfInBounds_toArray, List.set_cons_zero, List.set_cons_succ, i64_w, i32_w]
                        rfl
                      refine take_ (i := 11) (N := some 52) (v := ?_) (a' := ?_) #[true, true, true, true, true, true, true, true, true, true, true, true, false, false, false, false, false, false, false, false, false, false, false, false, false, false, false, false, false] rfl rfl (take_ofW HT_.out HW_.out (by kernel_rfl)) (fun _ _ _ h => h) (Or.inl ⟨by rfl, ?_⟩) hHeld ?_ ?_
                      rotate_left
                      · rintro w' ⟨s0, s1, s2, s3, s4, s5, s6, s7, s8, s9, s10, s11, s12, s13, s14, s15, s16, s17, s18, s19, s20, s21, s22, s23, s24, s25, s26, s27, s28, s29, s30, s31, s32, s33, s34, s35, s36, s37, s38, s39⟩
                        go_simp
                        with_reducible rfl
                      rotate_left
                      · simp only [Act.put, List.setIfInBounds_toArray, List.set_cons_zero, List.set_cons_succ, i64_w, i32_w]
                        rfl
                      refine pure_ (i := 12) (N := some 53) (v := ?_) (a' := ?_) #[true, true, true, true, true, true, true, true, true, true, true, true, true, false, false, false, false, false, false, false, false, false, false, false, false, false, false, false, false] rfl rfl (any_of HT_.out (by kernel_rfl)) (fun _ _ _ h => h) (Or.inl ⟨by rfl, ?_⟩) ?_ ?_
                      rotate_left
                      · intro w'
                        go_simp
                        with_reducible rfl
                      rotate_left
                      · simp only [Act.put, List.setIfInBounds_toArray, List.set_cons_zero, List.set_cons_succ, i64_w, i32_w]
                        rfl
                      refine pure_ (i := 13) (N := some 54) (v := ?_) (a' := ?_) #[true, true, true, true, true, true, true, true, true, true, true, true, true, true, false, false, false, false, false, false, false, false, false, false, false, false, false, false, false] rfl rfl (any_of HT_.out (by kernel_rfl)) (fun _ _ _ h => h) (Or.inl ⟨by rfl, ?_⟩) ?_ ?_
                      rotate_left
                      · intro w'
                        go_simp
                        with_reducible rfl
                      rotate_left
                      · simp only [Act.put, List.setIfInBounds_toArray, List.set_cons_zero, List.set_cons_succ, i64_w, i32_w]
                        rfl
                      refine pure_ (i := 14) (N := some 55) (v := ?_) (a' := ?_) #[true, true, true, true, true, true, true, true, true, true, true, true, true, true, true, false, false, false, false, false, false, false, false, false, false, false, false, false, false] rfl rfl (any_of HT_.out (by kernel_rfl)) (fun _ _ _ h => h) (Or.inl ⟨by rfl, ?_⟩) ?_ ?_
                      rotate_left
                      · intro w'
                        go_simp
                        with_reducible rfl
                      rotate_left
                      · simp only [Act.put, List.setIfInBounds_toArray, List.set_cons_zero, List.set_cons_succ, i64_w, i32_w]
                        rfl
                      refine pure_ (i := 16) (N := some 57) (v := ?_) (a' := ?_) #[true, true, true, true, true, true, true, true, true, true, true, true, true, true, true, false, true, false, false, false, false, false, false, false, false, false, false, false, false] rfl rfl (any_of HT_.out (by kernel_rfl)) (fun _ _ _ h => h) (Or.inl ⟨by rfl, ?_⟩) ?_ ?_
                      rotate_left
                      · intro w'
                        go_simp
                        with_reducible rfl
                      rotate_left
                      · simp only [Act.put, List.setIfInBounds_toArray, List.set_cons_zero, List.set_cons_succ, i64_w, i32_w]
                        rfl
                      refine pure_ (i := 20) (N := some 61) (v := ?_) (a' := ?_) #[true, true, true, true, true, true, true, true, true, true, true, true, true, true, true, false, true, false, false, false, true, false, false, false, false, false, false, false, false] rfl rfl (any_of HT_.out (by kernel_rfl)) (fun _ _ _ h => h) (Or.inl ⟨by rfl, ?_⟩) ?_ ?_
                      rotate_left
                      · intro w'
                        go_simp
                        with_reducible rfl
                      rotate_left
                      · simp only [Act.put, List.setIfInBounds_toArray, List.set_cons_zero, List.set_cons_succ, i64_w, i32_w]
                        rfl
                      refine pure_ (i := 22) (N := some 63) (v := ?_) (a' := ?_) #[true, true, true, true, true, true, true, true, true, true, true, true, true, true, true, false, true, false, false, false, true, false, true, false, false, false, false, false, false] rfl rfl (any_of HT_.out (by kernel_rfl)) (fun _ _ _ h => h) (Or.inl ⟨by rfl, ?_⟩) ?_ ?_
                      rotate_left
                      · intro w'
                        go_simp
                        with_reducible rfl
                      rotate_left
                      · simp only [Act.put, List.setIfInBounds_toArray, List.set_cons_zero, List.set_cons_succ, i64_w, i32_w]
                        rfl
                      refine take_ (i := 15) (N := some 56) (v := ?_) (a' := ?_) #[true, true, true, true, true, true, true, true, true, true, true, true, true, true, true, true, true, false, false, false, true, false, true, false, false, false, false, false, false] rfl rfl (take_ofW HT_.out HW_.out (by kernel_rfl)) (fun _ _ _ h => h) (Or.inl ⟨by rfl, ?_⟩) hHeld ?_ ?_
                      rotate_left
                      · rintro w' ⟨s0, s1, s2, s3, s4, s5, s6, s7, s8, s9, s10, s11, s12, s13, s14, s15, s16, s17, s18, s19, s20, s21, s22, s23, s24, s25, s26, s27, s28, s29, s30, s31, s32, s33, s34, s35, s36, s37, s38, s39⟩
                        go_simp
                        with_reducible rfl
                      rotate_left
                      · simp only [Act.put, List.setIfInBounds_toArray, List.set_cons_zero, List.set_cons_succ, i64_w, i32_w]
                        rfl
                      refine pure_ (i := 17) (N := some 58) (v := ?_) (a' := ?_) #[true, true, true, true, true, true, true, true, true, true, true, true, true, true, true, true, true, true, false, false, true, false, true, false, false, false, false, false, false] rfl rfl (any_of HT_.out (by kernel_rfl)) (fun _ _ _ h => h) (Or.inl ⟨by rfl, ?_⟩) ?_ ?_
                      rotate_left
                      · intro w'
                        go_simp
                        with_reducible rfl
                      rotate_left
                      · simp only [Act.put, List.setIfInBounds_toArray, List.set_cons_zero, List.set_cons_succ, i64_w, i32_w]
                        rfl
                      refine pure_ (i := 18) (N := some 59) (v := ?_) (a' := ?_) #[true, true, true, true, true, true, true, true, true, true, true, true, true, true, true, true, true, true, true, false, true, false, true, false, false, false, false, false, false] rfl rfl (any_of HT_.out (by kernel_rfl)) (fun _ _ _ h => h) (Or.inl ⟨by rfl, ?_⟩) ?_ ?_
                      rotate_left
                      · intro w'
                        go_simp
                        with_reducible rfl
                      rotate_left
                      · simp only [Act.put, List.setIfInBounds_toArray, List.set_cons_zero, List.set_cons_succ, i64_w, i32_w]
                        rfl
                      refine take_ (i := 19) (N := some 60) (v := ?_) (a' := ?_) #[true, true, true, true, true, true, true, true, true, true, true, true, true, true, true, true, true, true, true, true, true, false, true, false, false, false, false, false, false] rfl rfl (take_ofW HT_.out HW_.out (by kernel_rfl)) (fun _ _ _ h => h) (Or.inl ⟨by rfl, ?_⟩) hHeld ?_ ?_
                      rotate_left
                      · rintro w' ⟨s0, s1, s2, s3, s4, s5, s6, s7, s8, s9, s10, s11, s12, s13, s14, s15, s16, s17, s18, s19, s20, s21, s22, s23, s24, s25, s26, s27, s28, s29, s30, s31, s32, s33, s34, s35, s36, s37, s38, s39⟩
                        go_simp
                        with_reducible rfl
                      rotate_left
                      · simp only [Act.put, List.setIfInBounds_toArray, List.set_cons_zero, List.set_cons_succ, i64_w, i32_w]
                        rfl
                      refine take_ (i := 21) (N := some 62) (v := ?_) (a' := ?_) #[true, true, true, true, true, true, true, true, true, true, true, true, true, true, true, true, true, true, true, true, true, true, true, false, false, false, false, false, false] rfl rfl (take_ofW HT_.out HW_.out (by kernel_rfl)) (fun _ _ _ h => h) (Or.inl ⟨by rfl, ?_⟩) hHeld ?_ ?_
                      rotate_left
                      · rintro w' ⟨s0, s1, s2, s3, s4, s5, s6, s7, s8, s9, s10, s11, s12, s13, s14, s15, s16, s17, s18, s19, s20, s21, s22, s23, s24, s25, s26, s27, s28, s29, s30, s31, s32, s33, s34, s35, s36, s37, s38, s39⟩
                        go_simp
                        with_reducible rfl
                      rotate_left
                      · simp only [Act.put, List.setIfInBounds_toArray, List.set_cons_zero, List.set_cons_succ, i64_w, i32_w]
                        rfl
                      refine pure_ (i := 23) (N := some 64) (v := ?_) (a' := ?_) #[true, true, true, true, true, true, true, true, true, true, true, true, true, true, true, true, true, true, true, true, true, true, true, true, false, false, false, false, false] rfl rfl (any_of HT_.out (by kernel_rfl)) (fun _ _ _ h => h) (Or.inl ⟨by rfl, ?_⟩) ?_ ?_
                      rotate_left
                      · intro w'
                        go_simp
                        with_reducible rfl
                      rotate_left
                      · simp only [Act.put, List.setIfInBounds_toArray, List.set_cons_zero, List.set_cons_succ, i64_w, i32_w]
                        rfl
                      refine pure_ (i := 24) (N := some 65) (v := ?_) (a' := ?_) #[true, true, true, true, true, true, true, true, true, true, true, true, true, true, true, true, true, true, true, true, true, true, true, true, true, false, false, false, false] rfl rfl (any_of HT_.out (by kernel_rfl)) (fun _ _ _ h => h) (Or.inl ⟨by rfl, ?_⟩) ?_ ?_
                      rotate_left
                      · intro w'
                        go_simp
                        with_reducible rfl
                      rotate_left
                      · simp only [Act.put, List.setIfInBounds_toArray, List.set_cons_zero, List.set_cons_succ, i64_w, i32_w]
                        rfl
                      refine take_ (i := 25) (N := some 66) (v := ?_) (a' := ?_) #[true, true, true, true, true, true, true, true, true, true, true, true, true, true, true, true, true, true, true, true, true, true, true, true, true, true, false, false, false] rfl rfl (take_ofW HT_.out HW_.out (by kernel_rfl)) (fun _ _ _ h => h) (Or.inl ⟨by rfl, ?_⟩) hHeld ?_ ?_
                      rotate_left
                      · rintro w' ⟨s0, s1, s2, s3, s4, s5, s6, s7, s8, s9, s10, s11, s12, s13, s14, s15, s16, s17, s18, s19, s20, s21, s22, s23, s24, s25, s26, s27, s28, s29, s30, s31, s32, s33, s34, s35, s36, s37, s38, s39⟩
                        go_simp
                        with_reducible rfl
                      rotate_left
                      · simp only [Act.put, List.setIfInBounds_toArray, List.set_cons_zero, List.set_cons_succ, i64_w, i32_w]
                        rfl
                      refine one_ (i := 26) (N := some 67) #[true, true, true, true, true, true, true, true, true, true, true, true, true, true, true, true, true, true, true, true, true, true, true, true, true, true, true, false, false] rfl rfl (one_of HT_.out (by kernel_rfl)) (by decide) (fun K hK => ?_)
                      refine goes_ Try.func101 (by kernel_rfl) rfl #[.agg #[.string ((rd_T131 l0_2 x5_2).f0.f0), .slice A264_1 ((rd_T131 l0_2 x5_2).f0.f1).length c264_1, .int .i64 ((rd_T131 l0_2 x5_2).f0.f2.f0), .slice A264_3 ((rd_T131 l0_2 x5_2).f0.f2.f1).length c264_3, .string ((rd_T131 l0_2 x5_2).f0.f2.f2), .int .i64 ((rd_T131 l0_2 x5_2).f0.f3), .int .i64 ((rd_T131 l0_2 x5_2).f0.f4)], .agg #[.string ((rd_T131 l1_2 x5_2).f0.f0), .slice A265_1 ((rd_T131 l1_2 x5_2).f0.f1).length c265_1, .int .i64 ((rd_T131 l1_2 x5_2).f0.f2.f0), .slice A265_3 ((rd_T131 l1_2 x5_2).f0.f2.f1).length c265_3, .string ((rd_T131 l1_2 x5_2).f0.f2.f2), .int .i64 ((rd_T131 l1_2 x5_2).f0.f3), .int .i64 ((rd_T131 l1_2 x5_2).f0.f4)]] (by rfl) rfl rfl Kit.am ?_
                      with_reducible refine (spec_l12SameItem.calls k2 ((rd_T131 l0_2 x5_2).f0.f0) _ _ ((rd_T131 l0_2 x5_2).f0.f1) ((rd_T131 l0_2 x5_2).f0.f2.f0) _ _ ((rd_T131 l0_2 x5_2).f0.f2.f1) ((rd_T131 l0_2 x5_2).f0.f2.f2) ((rd_T131 l0_2 x5_2).f0.f3) ((rd_T131 l0_2 x5_2).f0.f4) ((rd_T131 l1_2 x5_2).f0.f0) _ _ ((rd_T131 l1_2 x5_2).f0.f1) ((rd_T131 l1_2 x5_2).f0.f2.f0) _ _ ((rd_T131 l1_2 x5_2).f0.f2.f1) ((rd_T131 l1_2 x5_2).f0.f2.f2) ((rd_T131 l1_2 x5_2).f0.f3) ((rd_T131 l1_2 x5_2).f0.f4) false _ ?side1 ?side2 ?side3 ?side4 ?side5 ?side6 ?side7 ?side8 A29.out).mono ?_
                      (case side1 => exact Kit.cr HR266_1.out HB.out)
                      (case side2 => exact HC266_1.out)
                      (case side3 => exact Kit.cr HR266_3.out HB.out)
                      (case side4 => exact HC266_3.out)
                      (case side5 => exact Kit.cr HR267_1.out HB.out)
                      (case side6 => exact HC267_1.out)
                      (case side7 => exact Kit.cr HR267_3.out HB.out)
                      (case side8 => exact HC267_3.out)
                      rintro e w38 ⟨rfl, hb⟩
                      refine ⟨_, rfl, ?_⟩
                      replace BK262 := Kit.bB BK262 hb
                      replace BK263 := Kit.bB BK263 hb
                      replace HB := Kit.hB hb
                      (try clear hb)
                      (try clear hb2)
                      (try clear hk)
                      (try clear hi)
                      refine hK.out _ _ ⟨(blk_cell BK262.out 0).trans rfl, (blk_cell BK262.out 1).trans rfl, (blk_cell BK262.out 2).trans rfl, (blk_cell BK262.out 3).trans rfl, (blk_cell BK263.out 0).trans rfl, (blk_cell BK263.out 1).trans rfl, (blk_cell BK263.out 2).trans rfl, (blk_cell BK263.out 3).trans rfl, (Kit.hx HB.out hw264_0), (Kit.hx HB.out hw264_1), (Kit.hx HB.out hw264_2), (Kit.hx HB.out hw264_3), (Kit.hx HB.out hw264_4), (Kit.hx HB.out hw264_5), (Kit.hx HB.out hw264_6), (Kit.hx HB.out hw264_7), (Kit.hx HB.out hw265_0), (Kit.hx HB.out hw265_1), (Kit.hx HB.out hw265_2), (Kit.hx HB.out hw265_3), (Kit.hx HB.out hw265_4), (Kit.hx HB.out hw265_5), (Kit.hx HB.out hw265_6), (Kit.hx HB.out hw265_7), (Kit.hx HB.out hw266_0), (Kit.hx HB.out hw266_1), (Kit.hx HB.out hw266_2), (Kit.hx HB.out hw266_3), (Kit.hx HB.out hw266_4), (Kit.hx HB.out hw266_5), (Kit.hx HB.out hw266_6), (Kit.hx HB.out hw266_7), (Kit.hx HB.out hw267_0), (Kit.hx HB.out hw267_1), (Kit.hx HB.out hw267_2), (Kit.hx HB.out hw267_3), (Kit.hx HB.out hw267_4), (Kit.hx HB.out hw267_5), (Kit.hx HB.out hw267_6), (Kit.hx HB.out hw267_7)⟩ (fun hHeld => ?_)
                      clear hK K
                      refine norm_ (a' := ?_) ?_ ?_
                      rotate_left
                      · show Act.put _ (some 67) _ = _
                        simp only [Act.put, List.setIfInBounds_toArray, List.set_cons_zero, List.set_cons_succ, i64_w, i32_w]
                        rfl
                      refine pure_ (i := 27) (N := some 68) (v := ?_) (a' := ?_) #[true, true, true, true, true, true, true, true, true, true, true, true, true, true, true, true, true, true, true, true, true, true, true, true, true, true, true, true, false] rfl rfl (any_of HT_.out (by kernel_rfl)) (fun _ _ _ h => h) (Or.inl ⟨by rfl, ?_⟩) ?_ ?_
                      rotate_left
                      · intro w'
                        go_simp
                        with_reducible rfl
                      rotate_left
                      · simp only [Act.put, List.setIfInBounds_toArray, List.set_cons_zero, List.set_cons_succ, i64_w, i32_w]
                        rfl
                      refine pure_ (i := 28) (N := some 69) (v := ?_) (a' := ?_) #[true, true, true, true, true, true, true, true, true, true, true, true, true, true, true, true, true, true, true, true, true, true, true, true, true, true, true, true, true] rfl rfl (any_of HT_.out (by kernel_rfl)) (fun _ _ _ h => h) (Or.inl ⟨by rfl, ?_⟩) ?_ ?_
                      rotate_left
                      · intro w'
                        go_simp
                        with_reducible rfl
                      rotate_left
                      · simp only [Act.put, List.setIfInBounds_toArray, List.set_cons_zero, List.set_cons_succ, i64_w, i32_w]
                        rfl
                      refine done_ (done_of HT_.out (by kernel_rfl)) ?_
                      try go_wp2
                      go_ret
                      exact ⟨Kit.er, Kit.bl⟩
                · rw [if_neg c24] at H
                  exact absurd H (by simp)
              · rw [if_neg c23] at H
                exact absurd H (by simp)
            · rw [if_neg c22] at H
              have c22b0 : decide (x5_2 < (l0_2.length : Int)) = false := decide_eq_false c22
              clear c22
              obtain rfl := Option.some.inj H
              have hnb39 := NB262_263.out
              have hnc39 := NB263_262.out
              have hcz40_0 : wr.cell? ⟨gb262, 0, none⟩ = some (.int .i64 a0_0) := (blk_cell BK262.out 0).trans rfl
              have hcz40_1 : wr.cell? ⟨gb262, 1, none⟩ = some (.int .i64 a0_1) := (blk_cell BK262.out 1).trans rfl
              have hcz40_2 : wr.cell? ⟨gb262, 2, none⟩ = some (.slice A0_2 l0_2.length c0_2) := (blk_cell BK262.out 2).trans rfl
              have hcz40_3 : wr.cell? ⟨gb262, 3, none⟩ = some (.int .i64 a0_3) := (blk_cell BK262.out 3).trans rfl
              have hfz40_0 := blk_frozen BK262.out 0
              have hfz40_1 := blk_frozen BK262.out 1
              have hfz40_2 := blk_frozen BK262.out 2
              have hfz40_3 := blk_frozen BK262.out 3
              go_wp2
              go_ret
              exact ⟨Kit.er, Kit.bl⟩

end Go.Proofs.Ythbmemimpakljaa.QFnExactSameCache
