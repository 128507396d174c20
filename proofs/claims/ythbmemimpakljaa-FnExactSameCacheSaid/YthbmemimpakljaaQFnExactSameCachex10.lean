-- Written by own.py, a program of this session's own, which calls the kit's print. Lean checks it.
import Derived.Test.YthbmemimpakljaaQFnExactSameCachex0
import Derived.Test.YthbmemimpakljaaQFnExactSameCachex2
import Derived.Test.YthbmemimpakljaaQFnExactSameCachex9
namespace Go.Proofs.Ythbmemimpakljaa.QFnExactSameCache
open Go.RowKit Go.Proofs.YthbmemimpakljaaW.PrintWords Go.Proofs.YthbmemimpakljaaW.PrintLast
attribute [local go_sem] Kit.run_store_one   -- for this text's walks alone
set_option linter.unusedVariables false
set_option linter.unusedSimpArgs false

attribute [local go_sem high] eqA89
/-! ### spec_SameCache: function 40 -/
mutual
def spec_SameCache.j0 : Nat → Bool → List (S97) → List (S89) → List (S97) → List (S89) → Option (Bool)
  | 0, _, _, _, _, _ => none
  | k + 1, x22, x270000, x270001, x271000, x271001 => if x22 = true then (some false) else (spec_SameCache.l0 k 0 x270000 x270001 x271000 x271001)
def spec_SameCache.l0 : Nat → Int → List (S97) → List (S89) → List (S97) → List (S89) → Option (Bool)
  | 0, _, _, _, _, _ => none
  | k + 1, x5, x270000, x270001, x271000, x271001 => if x5 < (x270000.length : Int) then (if 0 ≤ x5 then (if x5 < (x271000.length : Int) then ((spec_SameShard.f k ((rd_T97 x270000 x5).f0) ((rd_T97 x270000 x5).f1) ((rd_T97 x270000 x5).f2) ((rd_T97 x270000 x5).f3) ((rd_T97 x271000 x5).f0) ((rd_T97 x271000 x5).f1) ((rd_T97 x271000 x5).f2) ((rd_T97 x271000 x5).f3)).bind fun t273 => (if t273 = true then (spec_SameCache.l0 k (wrap64 (x5 + 1)) x270000 x270001 x271000 x271001) else (some false))) else (none)) else (none)) else (spec_SameCache.l1 k 0 x270000 x270001 x271000 x271001)
def spec_SameCache.l1 : Nat → Int → List (S97) → List (S89) → List (S97) → List (S89) → Option (Bool)
  | 0, _, _, _, _, _ => none
  | k + 1, x6, x270000, x270001, x271000, x271001 => if x6 < (x270001.length : Int) then (if 0 ≤ x6 then (if x6 < (x271001.length : Int) then (if (!((((rd_T89 x270001 x6).f0).toList) == (((rd_T89 x271001 x6).f0).toList)) || (!(((rd_T89 x270001 x6).f1) == ((rd_T89 x271001 x6).f1)))) = true then (some false) else (spec_SameCache.l1 k (wrap64 (x6 + 1)) x270000 x270001 x271000 x271001)) else (none)) else (none)) else (some true)
end
def spec_SameCache.f (k : Nat) (l0_0 : List (S97)) (l0_1 : List (S89)) (l1_0 : List (S97)) (l1_1 : List (S89)) : Option (Bool) := if (l0_0.length : Int) = (l1_0.length : Int) then (spec_SameCache.j0 k ((l0_1.length : Int) != (l1_1.length : Int)) l0_0 l0_1 l1_0 l1_1) else (spec_SameCache.j0 k true l0_0 l0_1 l1_0 l1_1)
theorem spec_SameCache.mono_l : ∀ k, (∀ y0 y1 y2 y3 y4, LeO (spec_SameCache.j0 k y0 y1 y2 y3 y4) (spec_SameCache.j0 (k + 1) y0 y1 y2 y3 y4)) ∧ (∀ y0 y1 y2 y3 y4, LeO (spec_SameCache.l0 k y0 y1 y2 y3 y4) (spec_SameCache.l0 (k + 1) y0 y1 y2 y3 y4)) ∧ (∀ y0 y1 y2 y3 y4, LeO (spec_SameCache.l1 k y0 y1 y2 y3 y4) (spec_SameCache.l1 (k + 1) y0 y1 y2 y3 y4))
  | 0 => ⟨fun _ _ _ _ _ r h => by simp [spec_SameCache.j0] at h, fun _ _ _ _ _ r h => by simp [spec_SameCache.l0] at h, fun _ _ _ _ _ r h => by simp [spec_SameCache.l1] at h⟩
  | k + 1 => by
    obtain ⟨ih0, ih1, ih2⟩ := spec_SameCache.mono_l k
    refine ⟨?_, ?_, ?_⟩
    · intro y0 y1 y2 y3 y4
      unfold spec_SameCache.j0
      repeat' first
      | (with_reducible exact ih0 _ _ _ _ _)
      | (with_reducible exact ih1 _ _ _ _ _)
      | (with_reducible exact ih2 _ _ _ _ _)
      | (with_reducible exact spec_SameShard.mono _ _ _ _ _ _ _ _ _)
      | (with_reducible exact LeO.refl _)
      | (with_reducible exact LeO.none _)
      | (with_reducible refine LeO.ite ?_ ?_)
      | (with_reducible refine LeO.bind ?_ (fun _ => ?_))
      | exact ih0 _ _ _ _ _
      | exact ih1 _ _ _ _ _
      | exact ih2 _ _ _ _ _
      | exact spec_SameShard.mono _ _ _ _ _ _ _ _ _
      | exact LeO.none _
      | refine LeO.ite ?_ ?_
      | refine LeO.bind ?_ (fun _ => ?_)
    · intro y0 y1 y2 y3 y4
      unfold spec_SameCache.l0
      repeat' first
      | (with_reducible exact ih0 _ _ _ _ _)
      | (with_reducible exact ih1 _ _ _ _ _)
      | (with_reducible exact ih2 _ _ _ _ _)
      | (with_reducible exact spec_SameShard.mono _ _ _ _ _ _ _ _ _)
      | (with_reducible exact LeO.refl _)
      | (with_reducible exact LeO.none _)
      | (with_reducible refine LeO.ite ?_ ?_)
      | (with_reducible refine LeO.bind ?_ (fun _ => ?_))
      | exact ih0 _ _ _ _ _
      | exact ih1 _ _ _ _ _
      | exact ih2 _ _ _ _ _
      | exact spec_SameShard.mono _ _ _ _ _ _ _ _ _
      | exact LeO.none _
      | refine LeO.ite ?_ ?_
      | refine LeO.bind ?_ (fun _ => ?_)
    · intro y0 y1 y2 y3 y4
      unfold spec_SameCache.l1
      repeat' first
      | (with_reducible exact ih0 _ _ _ _ _)
      | (with_reducible exact ih1 _ _ _ _ _)
      | (with_reducible exact ih2 _ _ _ _ _)
      | (with_reducible exact spec_SameShard.mono _ _ _ _ _ _ _ _ _)
      | (with_reducible exact LeO.refl _)
      | (with_reducible exact LeO.none _)
      | (with_reducible refine LeO.ite ?_ ?_)
      | (with_reducible refine LeO.bind ?_ (fun _ => ?_))
      | exact ih0 _ _ _ _ _
      | exact ih1 _ _ _ _ _
      | exact ih2 _ _ _ _ _
      | exact spec_SameShard.mono _ _ _ _ _ _ _ _ _
      | exact LeO.none _
      | refine LeO.ite ?_ ?_
      | refine LeO.bind ?_ (fun _ => ?_)
theorem spec_SameCache.mono : ∀ a0 a1 a2 a3 k, LeO (spec_SameCache.f k a0 a1 a2 a3) (spec_SameCache.f (k + 1) a0 a1 a2 a3) := by
  intro a0 a1 a2 a3 k
  obtain ⟨ih0, ih1, ih2⟩ := spec_SameCache.mono_l k
  unfold spec_SameCache.f
  repeat' first
      | (with_reducible exact ih0 _ _ _ _ _)
      | (with_reducible exact ih1 _ _ _ _ _)
      | (with_reducible exact ih2 _ _ _ _ _)
      | (with_reducible exact spec_SameShard.mono _ _ _ _ _ _ _ _ _)
      | (with_reducible exact LeO.refl _)
      | (with_reducible exact LeO.none _)
      | (with_reducible refine LeO.ite ?_ ?_)
      | (with_reducible refine LeO.bind ?_ (fun _ => ?_))
      | exact ih0 _ _ _ _ _
      | exact ih1 _ _ _ _ _
      | exact ih2 _ _ _ _ _
      | exact spec_SameShard.mono _ _ _ _ _ _ _ _ _
      | exact LeO.none _
      | refine LeO.ite ?_ ?_
      | refine LeO.bind ?_ (fun _ => ?_)
def spec_SameCache.T6 : Bool × List (List Nat × List Nat) := (true, [([], []), ([0], [0]), ([], []), ([1, 2], [1, 2]), ([3], [3]), ([], []), ([5], [5]), ([], []), ([6, 7], [6, 7]), ([8], [8]), ([4, 9], [4, 9]), ([10], [10])])
def spec_SameCache.B6 : List Nat := [0, 1, 0, 7, 15, 0, 32, 0, 224, 480, 1023, 2047]
theorem spec_SameCache.tab6 : rtab .any (opsOf Try.f40 6) = spec_SameCache.T6 := by kernel_rfl
theorem spec_SameCache.bits6 : waitsOk spec_SameCache.T6.2 spec_SameCache.B6 = true := by kernel_rfl
def spec_SameCache.T11 : Bool × List (List Nat × List Nat) := (true, [([], []), ([0], [0]), ([], []), ([1, 2], [1, 2]), ([3], [3]), ([], []), ([5], [5]), ([], []), ([6, 7], [6, 7]), ([8], [8]), ([4, 9], [4, 9])])
def spec_SameCache.B11 : List Nat := [0, 1, 0, 7, 15, 0, 32, 0, 224, 480, 1023]
theorem spec_SameCache.tab11 : rtab .any (opsOf Try.f40 11) = spec_SameCache.T11 := by kernel_rfl
theorem spec_SameCache.bits11 : waitsOk spec_SameCache.T11.2 spec_SameCache.B11 = true := by kernel_rfl
set_option maxHeartbeats 8000000 in
set_option maxRecDepth 100000 in
theorem spec_SameCache.calls (k : Nat) (A0_0 : Option Addr) (c0_0 : Nat) (l0_0 : List (S97)) (A0_1 : Option Addr) (c0_1 : Nat) (l0_1 : List (S89)) (A1_0 : Option Addr) (c1_0 : Nat) (l1_0 : List (S97)) (A1_1 : Option Addr) (c1_1 : Nat) (l1_1 : List (S89)) (r : Bool) (w : World) (hr0_0 : Kd.C k97 w A0_0 l0_0.length l0_0) (hc0_0 : l0_0.length ≤ c0_0) (hr0_1 : Kd.C k89 w A0_1 l0_1.length l0_1) (hc0_1 : l0_1.length ≤ c0_1) (hr1_0 : Kd.C k97 w A1_0 l1_0.length l1_0) (hc1_0 : l1_0.length ≤ c1_0) (hr1_1 : Kd.C k89 w A1_1 l1_1.length l1_1) (hc1_1 : l1_1.length ≤ c1_1) (h : spec_SameCache.f k l0_0 l0_1 l1_0 l1_1 = some r) :
    Calls Try.prog 40 #[.agg #[.slice A0_0 l0_0.length c0_0, .slice A0_1 l0_1.length c0_1], .agg #[.slice A1_0 l1_0.length c1_0, .slice A1_1 l1_1.length c1_1]] w fun e w' => e = .returned (.bool r) ∧ Below w.heap.size w w' := by
  have hu62 := Try.underlying62
  have hu97 := Try.underlying97
  have hu89 := Try.underlying89
  have HR0_0 := Aside0.mk hr0_0
  have HC0_0 := Aside0.mk hc0_0
  clear hr0_0 hc0_0
  have HR0_1 := Aside0.mk hr0_1
  have HC0_1 := Aside0.mk hc0_1
  clear hr0_1 hc0_1
  have HR1_0 := Aside0.mk hr1_0
  have HC1_0 := Aside0.mk hc1_0
  clear hr1_0 hc1_0
  have HR1_1 := Aside0.mk hr1_1
  have HC1_1 := Aside0.mk hc1_1
  clear hr1_1 hc1_1
  have HB := Aside0.mk (Below.refl w.heap.size w)
  have H : (if (l0_0.length : Int) = (l1_0.length : Int) then (spec_SameCache.j0 k ((l0_1.length : Int) != (l1_1.length : Int)) l0_0 l0_1 l1_0 l1_1) else (spec_SameCache.j0 k true l0_0 l0_1 l1_0 l1_1)) = some r := h
  clear h
  have HC3 := Aside0.mk H
  clear H
  go_enter Try.func40, Try.ntmps40
  go_upto_region 1 with (first | ((with_reducible refine gate_dst (N := 2) rfl ?_); (try (refine gate_guard (by rfl) ?_; dsimp only)); refine box_event ?hg (N := 2) ?hd (cs := #[.slice A0_0 l0_0.length c0_0, .slice A0_1 l0_1.length c0_1]) (t := 62) ?hr ?_; (case hd => rfl); (case hg => rfl); (case hr => exact Kit.hr); intro gb269 hg w4 hbox hb; have BK269 := Aside0.mk (hbox); have GW269 := Kit.gX (w := w) hg; have GE269 := GW269; replace HB := Kit.hB hb; clear hb hbox hg) | ((with_reducible refine gate_dst (N := 3) rfl ?_); (try (refine gate_guard (by rfl) ?_; dsimp only)); refine box_event ?hg (N := 3) ?hd (cs := #[.slice A1_0 l1_0.length c1_0, .slice A1_1 l1_1.length c1_1]) (t := 62) ?hr ?_; (case hd => rfl); (case hg => rfl); (case hr => exact Kit.hr); intro gb270 hg w5 hbox hb; have BK270 := Aside0.mk (hbox); have GW270 := Kit.gX (w := w) hg; have GE270 := GW270; replace HB := Kit.hB hb; have NB269_270 := Aside0.mk (Kit.nlt hg BK269.out); have NB270_269 := Aside0.mk (Kit.ngt hg BK269.out); replace BK269 := Kit.bB BK269 hb; clear hb hbox hg))
  (try simp only [Act.put, List.setIfInBounds_toArray, List.set_cons_zero, List.set_cons_succ])
  go_cut [22] (fun v22 wc => ∃ (kq : Nat) (x22_2 : Bool), v22 = .bool x22_2 ∧ Aside0 (spec_SameCache.j0 kq x22_2 l0_0 l0_1 l1_0 l1_1 = some r) ∧ Aside0 (kq ≤ k) ∧ Aside0 (wc.heap[gb269]? = some (.cells #[(.slice A0_0 l0_0.length c0_0), (.slice A0_1 l0_1.length c0_1)] 62 (0, 0))) ∧ Aside0 (wc.heap[gb270]? = some (.cells #[(.slice A1_0 l1_0.length c1_0), (.slice A1_1 l1_1.length c1_1)] 62 (0, 0))) ∧ Aside0 (Below w.heap.size w wc))
  case first =>
    have H := HC3.out
    clear HC3
    by_cases c6 : (l0_0.length : Int) = (l1_0.length : Int)
    · rw [if_pos c6] at H
      have c6b0 : ((l0_0.length : Int) == (l1_0.length : Int)) = true := beq_iff_eq.mpr c6
      have c6b1 : ((l0_0.length : Int) != (l1_0.length : Int)) = false := bne_eq_false_iff_eq.mpr c6
      have c6b2 : (l0_0.length == l1_0.length) = true := by first | simpa using c6 | (simp at c6 ⊢; omega)
      clear c6
      (first | rw [c6b0] | (simp only [i64_w, i32_w]; rw [c6b0]) | skip)
      have H' := Aside0.mk H
      clear H
      have hnb7 := NB269_270.out
      have hnc7 := NB270_269.out
      obtain ⟨hcz8_0, hcz8_1, hfz8_0, hfz8_1⟩ := Kit.c2 BK269.out
      obtain ⟨hcz9_0, hcz9_1, hfz9_0, hfz9_1⟩ := Kit.c2 BK270.out
      go_wp2
      go_meet
      case rel => exact ⟨_, (((l0_1.length : Int) != (l1_1.length : Int))), (by first | rfl | (simp; done) | (simp [*]; done)), H', ⟨by first | omega | exact Nat.le_refl _⟩, ⟨by (with_reducible repeat (first | refine blk_drewN ?_ _ | refine blk_drew ?_ | refine blk_alloc ?_ _)); exact BK269.out⟩, ⟨by (with_reducible repeat (first | refine blk_drewN ?_ _ | refine blk_drew ?_ | refine blk_alloc ?_ _)); exact BK270.out⟩, ⟨Kit.bl⟩⟩
    · rw [if_neg c6] at H
      have c6b0 : ((l0_0.length : Int) == (l1_0.length : Int)) = false := beq_eq_false_iff_ne.mpr c6
      have c6b1 : ((l0_0.length : Int) != (l1_0.length : Int)) = true := bne_iff_ne.mpr c6
      have c6b2 : (l0_0.length == l1_0.length) = false := by first | simpa using c6 | (simp at c6 ⊢; omega)
      (first | rw [c6b0] | (simp only [i64_w, i32_w]; rw [c6b0]) | skip)
      have H' := Aside0.mk H
      clear H
      have hnb10 := NB269_270.out
      have hnc10 := NB270_269.out
      obtain ⟨hcz11_0, hcz11_1, hfz11_0, hfz11_1⟩ := Kit.c2 BK269.out
      obtain ⟨hcz12_0, hcz12_1, hfz12_0, hfz12_1⟩ := Kit.c2 BK270.out
      go_wp2
      go_meet
      case rel => exact ⟨_, (true), (by first | rfl | (simp; done) | (simp [*]; done)), H', ⟨by first | omega | exact Nat.le_refl _⟩, ⟨by (with_reducible repeat (first | refine blk_drewN ?_ _ | refine blk_drew ?_ | refine blk_alloc ?_ _)); exact BK269.out⟩, ⟨by (with_reducible repeat (first | refine blk_drewN ?_ _ | refine blk_drew ?_ | refine blk_alloc ?_ _)); exact BK270.out⟩, ⟨Kit.bl⟩⟩
  case rest =>
    clear HC3
    try clear c1
    try clear p2
    try clear c4
    try clear c6
    try clear c6b0
    try clear c6b1
    try clear c6b2
    try clear c7
    try clear c10
    try clear hcz11_0
    try clear hcz11_1
    try clear hcz12_0
    try clear hcz12_1
    try clear hcz8_0
    try clear hcz8_1
    try clear hcz9_0
    try clear hcz9_1
    try clear hfz11_0
    try clear hfz11_1
    try clear hfz12_0
    try clear hfz12_1
    try clear hfz8_0
    try clear hfz8_1
    try clear hfz9_0
    try clear hfz9_1
    obtain ⟨kq, x22_2, rfl, HA, HJ2, BK269, BK270, HB⟩ := hcut
    cases kq with
    | zero => exact absurd HA.out (by simp [spec_SameCache.j0])
    | succ kj2 =>
      have H := HA.out
      clear HA
      simp only [spec_SameCache.j0] at H
      by_cases c13 : x22_2 = true
      · subst c13
        have H1 : (some false) = some r := by rw [if_pos rfl] at H; exact H
        clear H
        have H := H1
        clear H1
        obtain rfl := Option.some.inj H
        go_wp2
        go_ret
        exact ⟨Kit.er, Kit.bl⟩
      · replace c13 := Bool.eq_false_iff.mpr c13
        subst c13
        have H1 : (spec_SameCache.l0 kj2 0 l0_0 l0_1 l1_0 l1_1) = some r := by rw [if_neg (show ¬ (false = true) by decide)] at H; exact H
        clear H
        have H := H1
        clear H1
        have H' := Aside0.mk H
        clear H
        go_wp2
        go_loopg [5] kj2 (fun kq v5 w' => ∃ (x5_2 : Int), v5 = .int .i64 x5_2 ∧ Aside0 (spec_SameCache.l0 kq x5_2 l0_0 l0_1 l1_0 l1_1 = some r) ∧ Aside0 (kq ≤ kj2) ∧ Aside0 (w'.heap[gb269]? = some (.cells #[(.slice A0_0 l0_0.length c0_0), (.slice A0_1 l0_1.length c0_1)] 62 (0, 0))) ∧ Aside0 (w'.heap[gb270]? = some (.cells #[(.slice A1_0 l1_0.length c1_0), (.slice A1_1 l1_1.length c1_1)] 62 (0, 0))) ∧ Aside0 (Below w.heap.size w w'))
        case atStart => exact ⟨(0), (by first | rfl | (simp; done) | (simp [*]; done)), H', ⟨Nat.le_refl _⟩, ⟨by (with_reducible repeat (first | refine blk_drewN ?_ _ | refine blk_drew ?_ | refine blk_alloc ?_ _)); exact BK269.out⟩, ⟨by (with_reducible repeat (first | refine blk_drewN ?_ _ | refine blk_drew ?_ | refine blk_alloc ?_ _)); exact BK270.out⟩, ⟨Kit.bl⟩⟩
        case round =>
          clear H'
          try clear c1
          try clear p2
          try clear c4
          try clear c6
          try clear c6b0
          try clear c6b1
          try clear c6b2
          try clear c7
          try clear c10
          try clear c13
          try clear hcz11_0
          try clear hcz11_1
          try clear hcz12_0
          try clear hcz12_1
          try clear hcz8_0
          try clear hcz8_1
          try clear hcz9_0
          try clear hcz9_1
          try clear hfz11_0
          try clear hfz11_1
          try clear hfz12_0
          try clear hfz12_1
          try clear hfz8_0
          try clear hfz8_1
          try clear hfz9_0
          try clear hfz9_1
          try clear p2
          obtain ⟨x5_2, rfl, HA, HK2, BK269, BK270, HB⟩ := hrel
          cases gk with
          | zero => exact absurd HA.out (by simp [spec_SameCache.l0])
          | succ k2 =>
            have H := HA.out
            clear HA
            simp only [spec_SameCache.l0] at H
            by_cases c14 : x5_2 < (l0_0.length : Int)
            · rw [if_pos c14] at H
              have c14b0 : decide (x5_2 < (l0_0.length : Int)) = true := decide_eq_true c14
              clear c14
              by_cases c15 : 0 ≤ x5_2
              · rw [if_pos c15] at H
                have c15b0 : decide (0 ≤ x5_2) = true := decide_eq_true c15
                clear c15
                by_cases c16 : x5_2 < (l1_0.length : Int)
                · rw [if_pos c16] at H
                  have c16b0 : decide (x5_2 < (l1_0.length : Int)) = true := decide_eq_true c16
                  clear c16
                  replace H := Option.bind_eq_some_iff.mp H
                  obtain ⟨t273, A170, H⟩ := H
                  replace H : (if t273 = true then (spec_SameCache.l0 k2 (wrap64 (x5_2 + 1)) l0_0 l0_1 l1_0 l1_1) else (some false)) = some r := H
                  have A17 := Aside0.mk A170
                  clear A170
                  by_cases c18 : t273 = true
                  · subst c18
                    have H1 : (spec_SameCache.l0 k2 (wrap64 (x5_2 + 1)) l0_0 l0_1 l1_0 l1_1) = some r := by rw [if_pos rfl] at H; exact H
                    clear H
                    have H := H1
                    clear H1
                    have H' := Aside0.mk H
                    clear H
                    have hnb19 := NB269_270.out
                    have hnc19 := NB270_269.out
                    have hcz20_0 : wr.cell? ⟨gb269, 0, none⟩ = some (.slice A0_0 l0_0.length c0_0) := (blk_cell BK269.out 0).trans rfl
                    have hcz20_1 : wr.cell? ⟨gb269, 1, none⟩ = some (.slice A0_1 l0_1.length c0_1) := (blk_cell BK269.out 1).trans rfl
                    have hfz20_0 := blk_frozen BK269.out 0
                    have hfz20_1 := blk_frozen BK269.out 1
                    try go_wp2
                    replace BK269 := Aside0.mk (blk_drew BK269.out)
                    replace BK270 := Aside0.mk (blk_drew BK270.out)
                    replace HB := Aside0.mk (below_drew1 HB.out)
                    have p271 : 0 ≤ (x5_2 : Int) := of_decide_eq_true Kit.asm
                    have q271 : x5_2 < (l0_0.length : Int) := of_decide_eq_true Kit.asm
                    obtain ⟨ad271, A271_2, c271_2, e271, hx271_0, hx271_1, hx271_2, hx271_3, hl271_2, hi271_2⟩ := at_T97 HR0_0.out x5_2 p271 q271
                    have hw271_3 := hx271_3
                    have hw271_2 := hx271_2
                    have hw271_1 := hx271_1
                    have hw271_0 := hx271_0
                    cases e271
                    replace hx271_0 := Kit.hx HB.out hx271_0
                    replace hx271_1 := Kit.hx HB.out hx271_1
                    replace hx271_2 := Kit.hx HB.out hx271_2
                    replace hx271_3 := Kit.hx HB.out hx271_3
                    have HR271_2 := Aside0.mk hi271_2
                    have HC271_2 := Aside0.mk hl271_2
                    clear hi271_2 hl271_2
                    replace p271 := eq_true p271
                    replace q271 := eq_true q271
                    have p272 : 0 ≤ (x5_2 : Int) := of_decide_eq_true Kit.asm
                    have q272 : x5_2 < (l1_0.length : Int) := of_decide_eq_true Kit.asm
                    obtain ⟨ad272, A272_2, c272_2, e272, hx272_0, hx272_1, hx272_2, hx272_3, hl272_2, hi272_2⟩ := at_T97 HR1_0.out x5_2 p272 q272
                    have hw272_3 := hx272_3
                    have hw272_2 := hx272_2
                    have hw272_1 := hx272_1
                    have hw272_0 := hx272_0
                    cases e272
                    replace hx272_0 := Kit.hx HB.out hx272_0
                    replace hx272_1 := Kit.hx HB.out hx272_1
                    replace hx272_2 := Kit.hx HB.out hx272_2
                    replace hx272_3 := Kit.hx HB.out hx272_3
                    have HR272_2 := Aside0.mk hi272_2
                    have HC272_2 := Aside0.mk hl272_2
                    clear hi272_2 hl272_2
                    replace p272 := eq_true p272
                    replace q272 := eq_true q272
                    refine start_ (n := 12) (S := fun w' => w'.cell? ⟨gb269, 0, none⟩ = some (.slice (some ad271) l0_0.length c0_0) ∧ w'.cell? ⟨gb269, 1, none⟩ = some (.slice A0_1 l0_1.length c0_1) ∧ w'.cell? ⟨gb270, 0, none⟩ = some (.slice (some ad272) l1_0.length c1_0) ∧ w'.cell? ⟨gb270, 1, none⟩ = some (.slice A1_1 l1_1.length c1_1) ∧ w'.cell? (ad271.add ((x5_2).toNat * 4)) = some (.int .i64 ((rd_T97 l0_0 x5_2).f0)) ∧ w'.cell? ⟨(ad271.add ((x5_2).toNat * 4)).block, (ad271.add ((x5_2).toNat * 4)).off + 1, none⟩ = some (.int .i64 ((rd_T97 l0_0 x5_2).f1)) ∧ w'.cell? ⟨(ad271.add ((x5_2).toNat * 4)).block, (ad271.add ((x5_2).toNat * 4)).off + 2, none⟩ = some (.slice A271_2 ((rd_T97 l0_0 x5_2).f2).length c271_2) ∧ w'.cell? ⟨(ad271.add ((x5_2).toNat * 4)).block, (ad271.add ((x5_2).toNat * 4)).off + 3, none⟩ = some (.int .i64 ((rd_T97 l0_0 x5_2).f3)) ∧ w'.cell? (ad272.add ((x5_2).toNat * 4)) = some (.int .i64 ((rd_T97 l1_0 x5_2).f0)) ∧ w'.cell? ⟨(ad272.add ((x5_2).toNat * 4)).block, (ad272.add ((x5_2).toNat * 4)).off + 1, none⟩ = some (.int .i64 ((rd_T97 l1_0 x5_2).f1)) ∧ w'.cell? ⟨(ad272.add ((x5_2).toNat * 4)).block, (ad272.add ((x5_2).toNat * 4)).off + 2, none⟩ = some (.slice A272_2 ((rd_T97 l1_0 x5_2).f2).length c272_2) ∧ w'.cell? ⟨(ad272.add ((x5_2).toNat * 4)).block, (ad272.add ((x5_2).toNat * 4)).off + 3, none⟩ = some (.int .i64 ((rd_T97 l1_0 x5_2).f3))) (ds := []) #[false, false, false, false, false, false, false, false, false, false, false, false] (by kernel_rfl) rfl rfl ⟨(blk_cell BK269.out 0).trans rfl, (blk_cell BK269.out 1).trans rfl, (blk_cell BK270.out 0).trans rfl, (blk_cell BK270.out 1).trans rfl, (Kit.hx HB.out hw271_0), (Kit.hx HB.out hw271_1), (Kit.hx HB.out hw271_2), (Kit.hx HB.out hw271_3), (Kit.hx HB.out hw272_0), (Kit.hx HB.out hw272_1), (Kit.hx HB.out hw272_2), (Kit.hx HB.out hw272_3)⟩ (fun hHeld => ?_); refine with_tabW spec_SameCache.tab6 spec_SameCache.bits6 (fun HT_ HW_ => ?_)
                    generalize wr.drew = w21 at BK269 BK270 HB HR271_2 HR272_2 hx271_0 hx271_1 hx271_2 hx271_3 hx272_0 hx272_1 hx272_2 hx272_3 hHeld ⊢
                    refine pure_ (i := 0) (N := some 30) (v := ?_) (a' := ?_) #[true, false, false, false, false, false, false, false, false, false, false, false] rfl rfl (any_of HT_.out (by kernel_rfl)) (fun _ _ _ h => h) (Or.inl ⟨by rfl, ?_⟩) ?_ ?_
                    rotate_left
                    · intro w'
                      go_simp
                      with_reducible rfl
                    rotate_left
                    · simp only [Act.put, List.setIfInBounds_toArray, List.set_cons_zero, List.set_cons_succ, i64_w, i32_w]
                      rfl
                    refine pure_ (i := 2) (N := some 32) (v := ?_) (a' := ?_) #[true, false, true, false, false, false, false, false, false, false, false, false] rfl rfl (any_of HT_.out (by kernel_rfl)) (fun _ _ _ h => h) (Or.inl ⟨by rfl, ?_⟩) ?_ ?_
                    rotate_left
                    · intro w'
                      go_simp
                      with_reducible rfl
                    rotate_left
                    · simp only [Act.put, List.setIfInBounds_toArray, List.set_cons_zero, List.set_cons_succ, i64_w, i32_w]
                      rfl
                    refine pure_ (i := 5) (N := some 35) (v := ?_) (a' := ?_) #[true, false, true, false, false, true, false, false, false, false, false, false] rfl rfl (any_of HT_.out (by kernel_rfl)) (fun _ _ _ h => h) (Or.inl ⟨by rfl, ?_⟩) ?_ ?_
                    rotate_left
                    · intro w'
                      go_simp
                      with_reducible rfl
                    rotate_left
                    · simp only [Act.put, List.setIfInBounds_toArray, List.set_cons_zero, List.set_cons_succ, i64_w, i32_w]
                      rfl
                    refine pure_ (i := 7) (N := some 37) (v := ?_) (a' := ?_) #[true, false, true, false, false, true, false, true, false, false, false, false] rfl rfl (any_of HT_.out (by kernel_rfl)) (fun _ _ _ h => h) (Or.inl ⟨by rfl, ?_⟩) ?_ ?_
                    rotate_left
                    · intro w'
                      go_simp
                      with_reducible rfl
                    rotate_left
                    · simp only [Act.put, List.setIfInBounds_toArray, List.set_cons_zero, List.set_cons_succ, i64_w, i32_w]
                      rfl
                    refine take_ (i := 1) (N := some 31) (v := ?_) (a' := ?_) #[true, true, true, false, false, true, false, true, false, false, false, false] rfl rfl (take_ofW HT_.out HW_.out (by kernel_rfl)) (fun _ _ _ h => h) (Or.inl ⟨by rfl, ?_⟩) hHeld ?_ ?_
                    rotate_left
                    · rintro w' ⟨s0, s1, s2, s3, s4, s5, s6, s7, s8, s9, s10, s11⟩
                      go_simp
                      with_reducible rfl
                    rotate_left
                    · simp only [Act.put, List.setIfInBounds_toArray, List.set_cons_zero, List.set_cons_succ, i64_w, i32_w]
                      rfl
                    refine pure_ (i := 3) (N := some 33) (v := ?_) (a' := ?_) #[true, true, true, true, false, true, false, true, false, false, false, false] rfl rfl (any_of HT_.out (by kernel_rfl)) (fun _ _ _ h => h) (Or.inl ⟨by rfl, ?_⟩) ?_ ?_
                    rotate_left
                    · intro w'
                      go_simp
                      with_reducible rfl
                    rotate_left
                    · simp only [Act.put, List.setIfInBounds_toArray, List.set_cons_zero, List.set_cons_succ, i64_w, i32_w]
                      rfl
                    refine take_ (i := 4) (N := some 34) (v := ?_) (a' := ?_) #[true, true, true, true, true, true, false, true, false, false, false, false] rfl rfl (take_ofW HT_.out HW_.out (by kernel_rfl)) (fun _ _ _ h => h) (Or.inl ⟨by rfl, ?_⟩) hHeld ?_ ?_
                    rotate_left
                    · rintro w' ⟨s0, s1, s2, s3, s4, s5, s6, s7, s8, s9, s10, s11⟩
                      go_simp
                      with_reducible rfl
                    rotate_left
                    · simp only [Act.put, List.setIfInBounds_toArray, List.set_cons_zero, List.set_cons_succ, i64_w, i32_w]
                      rfl
                    refine take_ (i := 6) (N := some 36) (v := ?_) (a' := ?_) #[true, true, true, true, true, true, true, true, false, false, false, false] rfl rfl (take_ofW HT_.out HW_.out (by kernel_rfl)) (fun _ _ _ h => h) (Or.inl ⟨by rfl, ?_⟩) hHeld ?_ ?_
                    rotate_left
                    · rintro w' ⟨s0, s1, s2, s3, s4, s5, s6, s7, s8, s9, s10, s11⟩
                      go_simp
                      with_reducible rfl
                    rotate_left
                    · simp only [Act.put, List.setIfInBounds_toArray, List.set_cons_zero, List.set_cons_succ, i64_w, i32_w]
                      rfl
                    refine pure_ (i := 8) (N := some 38) (v := ?_) (a' := ?_) #[true, true, true, true, true, true, true, true, true, false, false, false] rfl rfl (any_of HT_.out (by kernel_rfl)) (fun _ _ _ h => h) (Or.inl ⟨by rfl, ?_⟩) ?_ ?_
                    rotate_left
                    · intro w'
                      go_simp
                      with_reducible rfl
                    rotate_left
                    · simp only [Act.put, List.setIfInBounds_toArray, List.set_cons_zero, List.set_cons_succ, i64_w, i32_w]
                      rfl
                    refine take_ (i := 9) (N := some 39) (v := ?_) (a' := ?_) #[true, true, true, true, true, true, true, true, true, true, false, false] rfl rfl (take_ofW HT_.out HW_.out (by kernel_rfl)) (fun _ _ _ h => h) (Or.inl ⟨by rfl, ?_⟩) hHeld ?_ ?_
                    rotate_left
                    · rintro w' ⟨s0, s1, s2, s3, s4, s5, s6, s7, s8, s9, s10, s11⟩
                      go_simp
                      with_reducible rfl
                    rotate_left
                    · simp only [Act.put, List.setIfInBounds_toArray, List.set_cons_zero, List.set_cons_succ, i64_w, i32_w]
                      rfl
                    refine one_ (i := 10) (N := some 40) #[true, true, true, true, true, true, true, true, true, true, true, false] rfl rfl (one_of HT_.out (by kernel_rfl)) (by decide) (fun K hK => ?_)
                    refine goes_ Try.func79 (by kernel_rfl) rfl #[.agg #[.int .i64 ((rd_T97 l0_0 x5_2).f0), .int .i64 ((rd_T97 l0_0 x5_2).f1), .slice A271_2 ((rd_T97 l0_0 x5_2).f2).length c271_2, .int .i64 ((rd_T97 l0_0 x5_2).f3)], .agg #[.int .i64 ((rd_T97 l1_0 x5_2).f0), .int .i64 ((rd_T97 l1_0 x5_2).f1), .slice A272_2 ((rd_T97 l1_0 x5_2).f2).length c272_2, .int .i64 ((rd_T97 l1_0 x5_2).f3)]] (by rfl) rfl rfl Kit.am ?_
                    with_reducible refine (spec_SameShard.calls k2 ((rd_T97 l0_0 x5_2).f0) ((rd_T97 l0_0 x5_2).f1) _ _ ((rd_T97 l0_0 x5_2).f2) ((rd_T97 l0_0 x5_2).f3) ((rd_T97 l1_0 x5_2).f0) ((rd_T97 l1_0 x5_2).f1) _ _ ((rd_T97 l1_0 x5_2).f2) ((rd_T97 l1_0 x5_2).f3) true _ ?side1 ?side2 ?side3 ?side4 A17.out).mono ?_
                    (case side1 => exact Kit.cr HR271_2.out HB.out)
                    (case side2 => exact HC271_2.out)
                    (case side3 => exact Kit.cr HR272_2.out HB.out)
                    (case side4 => exact HC272_2.out)
                    rintro e w22 ⟨rfl, hb⟩
                    refine ⟨_, rfl, ?_⟩
                    replace BK269 := Kit.bB BK269 hb
                    replace BK270 := Kit.bB BK270 hb
                    replace HB := Kit.hB hb
                    (try clear hb)
                    (try clear hb2)
                    (try clear hk)
                    (try clear hi)
                    refine hK.out _ _ ⟨(blk_cell BK269.out 0).trans rfl, (blk_cell BK269.out 1).trans rfl, (blk_cell BK270.out 0).trans rfl, (blk_cell BK270.out 1).trans rfl, (Kit.hx HB.out hw271_0), (Kit.hx HB.out hw271_1), (Kit.hx HB.out hw271_2), (Kit.hx HB.out hw271_3), (Kit.hx HB.out hw272_0), (Kit.hx HB.out hw272_1), (Kit.hx HB.out hw272_2), (Kit.hx HB.out hw272_3)⟩ (fun hHeld => ?_)
                    clear hK K
                    refine norm_ (a' := ?_) ?_ ?_
                    rotate_left
                    · show Act.put _ (some 40) _ = _
                      simp only [Act.put, List.setIfInBounds_toArray, List.set_cons_zero, List.set_cons_succ, i64_w, i32_w]
                      rfl
                    refine pure_ (i := 11) (N := some 41) (v := ?_) (a' := ?_) #[true, true, true, true, true, true, true, true, true, true, true, true] rfl rfl (any_of HT_.out (by kernel_rfl)) (fun _ _ _ h => h) (Or.inl ⟨by rfl, ?_⟩) ?_ ?_
                    rotate_left
                    · intro w'
                      go_simp
                      with_reducible rfl
                    rotate_left
                    · simp only [Act.put, List.setIfInBounds_toArray, List.set_cons_zero, List.set_cons_succ, i64_w, i32_w]
                      rfl
                    refine done_ (done_of HT_.out (by kernel_rfl)) ?_
                    try go_wp2
                    go_roundg k2
                    case measure => have := HJ2.out; have := HK2.out; omega
                    case rel => exact ⟨(wrap64 (x5_2 + 1)), (by first | rfl | (simp; done) | (simp [*]; done)), H', ⟨by have := HJ2.out; have := HK2.out; omega⟩, ⟨by (with_reducible repeat (first | refine blk_drewN ?_ _ | refine blk_drew ?_ | refine blk_alloc ?_ _)); exact BK269.out⟩, ⟨by (with_reducible repeat (first | refine blk_drewN ?_ _ | refine blk_drew ?_ | refine blk_alloc ?_ _)); exact BK270.out⟩, ⟨Kit.bl⟩⟩
                  · replace c18 := Bool.eq_false_iff.mpr c18
                    subst c18
                    have H1 : (some false) = some r := by rw [if_neg (show ¬ (false = true) by decide)] at H; exact H
                    clear H
                    have H := H1
                    clear H1
                    obtain rfl := Option.some.inj H
                    have hnb23 := NB269_270.out
                    have hnc23 := NB270_269.out
                    have hcz24_0 : wr.cell? ⟨gb269, 0, none⟩ = some (.slice A0_0 l0_0.length c0_0) := (blk_cell BK269.out 0).trans rfl
                    have hcz24_1 : wr.cell? ⟨gb269, 1, none⟩ = some (.slice A0_1 l0_1.length c0_1) := (blk_cell BK269.out 1).trans rfl
                    have hfz24_0 := blk_frozen BK269.out 0
                    have hfz24_1 := blk_frozen BK269.out 1
                    try go_wp2
                    replace BK269 := Aside0.mk (blk_drew BK269.out)
                    replace BK270 := Aside0.mk (blk_drew BK270.out)
                    replace HB := Aside0.mk (below_drew1 HB.out)
                    have p271 : 0 ≤ (x5_2 : Int) := of_decide_eq_true Kit.asm
                    have q271 : x5_2 < (l0_0.length : Int) := of_decide_eq_true Kit.asm
                    obtain ⟨ad271, A271_2, c271_2, e271, hx271_0, hx271_1, hx271_2, hx271_3, hl271_2, hi271_2⟩ := at_T97 HR0_0.out x5_2 p271 q271
                    have hw271_3 := hx271_3
                    have hw271_2 := hx271_2
                    have hw271_1 := hx271_1
                    have hw271_0 := hx271_0
                    cases e271
                    replace hx271_0 := Kit.hx HB.out hx271_0
                    replace hx271_1 := Kit.hx HB.out hx271_1
                    replace hx271_2 := Kit.hx HB.out hx271_2
                    replace hx271_3 := Kit.hx HB.out hx271_3
                    have HR271_2 := Aside0.mk hi271_2
                    have HC271_2 := Aside0.mk hl271_2
                    clear hi271_2 hl271_2
                    replace p271 := eq_true p271
                    replace q271 := eq_true q271
                    have p272 : 0 ≤ (x5_2 : Int) := of_decide_eq_true Kit.asm
                    have q272 : x5_2 < (l1_0.length : Int) := of_decide_eq_true Kit.asm
                    obtain ⟨ad272, A272_2, c272_2, e272, hx272_0, hx272_1, hx272_2, hx272_3, hl272_2, hi272_2⟩ := at_T97 HR1_0.out x5_2 p272 q272
                    have hw272_3 := hx272_3
                    have hw272_2 := hx272_2
                    have hw272_1 := hx272_1
                    have hw272_0 := hx272_0
                    cases e272
                    replace hx272_0 := Kit.hx HB.out hx272_0
                    replace hx272_1 := Kit.hx HB.out hx272_1
                    replace hx272_2 := Kit.hx HB.out hx272_2
                    replace hx272_3 := Kit.hx HB.out hx272_3
                    have HR272_2 := Aside0.mk hi272_2
                    have HC272_2 := Aside0.mk hl272_2
                    clear hi272_2 hl272_2
                    replace p272 := eq_true p272
                    replace q272 := eq_true q272
                    refine start_ (n := 12) (S := fun w' => w'.cell? ⟨gb269, 0, none⟩ = some (.slice (some ad271) l0_0.length c0_0) ∧ w'.cell? ⟨gb269, 1, none⟩ = some (.slice A0_1 l0_1.length c0_1) ∧ w'.cell? ⟨gb270, 0, none⟩ = some (.slice (some ad272) l1_0.length c1_0) ∧ w'.cell? ⟨gb270, 1, none⟩ = some (.slice A1_1 l1_1.length c1_1) ∧ w'.cell? (ad271.add ((x5_2).toNat * 4)) = some (.int .i64 ((rd_T97 l0_0 x5_2).f0)) ∧ w'.cell? ⟨(ad271.add ((x5_2).toNat * 4)).block, (ad271.add ((x5_2).toNat * 4)).off + 1, none⟩ = some (.int .i64 ((rd_T97 l0_0 x5_2).f1)) ∧ w'.cell? ⟨(ad271.add ((x5_2).toNat * 4)).block, (ad271.add ((x5_2).toNat * 4)).off + 2, none⟩ = some (.slice A271_2 ((rd_T97 l0_0 x5_2).f2).length c271_2) ∧ w'.cell? ⟨(ad271.add ((x5_2).toNat * 4)).block, (ad271.add ((x5_2).toNat * 4)).off + 3, none⟩ = some (.int .i64 ((rd_T97 l0_0 x5_2).f3)) ∧ w'.cell? (ad272.add ((x5_2).toNat * 4)) = some (.int .i64 ((rd_T97 l1_0 x5_2).f0)) ∧ w'.cell? ⟨(ad272.add ((x5_2).toNat * 4)).block, (ad272.add ((x5_2).toNat * 4)).off + 1, none⟩ = some (.int .i64 ((rd_T97 l1_0 x5_2).f1)) ∧ w'.cell? ⟨(ad272.add ((x5_2).toNat * 4)).block, (ad272.add ((x5_2).toNat * 4)).off + 2, none⟩ = some (.slice A272_2 ((rd_T97 l1_0 x5_2).f2).length c272_2) ∧ w'.cell? ⟨(ad272.add ((x5_2).toNat * 4)).block, (ad272.add ((x5_2).toNat * 4)).off + 3, none⟩ = some (.int .i64 ((rd_T97 l1_0 x5_2).f3))) (ds := []) #[false, false, false, false, false, false, false, false, false, false, false, false] (by kernel_rfl) rfl rfl ⟨(blk_cell BK269.out 0).trans rfl, (blk_cell BK269.out 1).trans rfl, (blk_cell BK270.out 0).trans rfl, (blk_cell BK270.out 1).trans rfl, (Kit.hx HB.out hw271_0), (Kit.hx HB.out hw271_1), (Kit.hx HB.out hw271_2), (Kit.hx HB.out hw271_3), (Kit.hx HB.out hw272_0), (Kit.hx HB.out hw272_1), (Kit.hx HB.out hw272_2), (Kit.hx HB.out hw272_3)⟩ (fun hHeld => ?_); refine with_tabW spec_SameCache.tab6 spec_SameCache.bits6 (fun HT_ HW_ => ?_)
                    generalize wr.drew = w25 at BK269 BK270 HB HR271_2 HR272_2 hx271_0 hx271_1 hx271_2 hx271_3 hx272_0 hx272_1 hx272_2 hx272_3 hHeld ⊢
                    refine pure_ (i := 0) (N := some 30) (v := ?_) (a' := ?_) #[true, false, false, false, false, false, false, false, false, false, false, false] rfl rfl (any_of HT_.out (by kernel_rfl)) (fun _ _ _ h => h) (Or.inl ⟨by rfl, ?_⟩) ?_ ?_
                    rotate_left
                    · intro w'
                      go_simp
                      with_reducible rfl
                    rotate_left
                    · simp only [Act.put, List.setIfInBounds_toArray, List.set_cons_zero, List.set_cons_succ, i64_w, i32_w]
                      rfl
                    refine pure_ (i := 2) (N := some 32) (v := ?_) (a' := ?_) #[true, false, true, false, false, false, false, false, false, false, false, false] rfl rfl (any_of HT_.out (by kernel_rfl)) (fun _ _ _ h => h) (Or.inl ⟨by rfl, ?_⟩) ?_ ?_
                    rotate_left
                    · intro w'
                      go_simp
                      with_reducible rfl
                    rotate_left
                    · simp only [Act.put, List.setIfInBounds_toArray, List.set_cons_zero, List.set_cons_succ, i64_w, i32_w]
                      rfl
                    refine pure_ (i := 5) (N := some 35) (v := ?_) (a' := ?_) #[true, false, true, false, false, true, false, false, false, false, false, false] rfl rfl (any_of HT_.out (by kernel_rfl)) (fun _ _ _ h => h) (Or.inl ⟨by rfl, ?_⟩) ?_ ?_
                    rotate_left
                    · intro w'
                      go_simp
                      with_reducible rfl
                    rotate_left
                    · simp only [Act.put, List.setIfInBounds_toArray, List.set_cons_zero, List.set_cons_succ, i64_w, i32_w]
                      rfl
                    refine pure_ (i := 7) (N := some 37) (v := ?_) (a' := ?_) #[true, false, true, false, false, true, false, true, false, false, false, false] rfl rfl (any_of HT_.out (by kernel_rfl)) (fun _ _ _ h => h) (Or.inl ⟨by rfl, ?_⟩) ?_ ?_
                    rotate_left
                    · intro w'
                      go_simp
                      with_reducible rfl
                    rotate_left
                    · simp only [Act.put, List.setIfInBounds_toArray, List.set_cons_zero, List.set_cons_succ, i64_w, i32_w]
                      rfl
                    refine take_ (i := 1) (N := some 31) (v := ?_) (a' := ?_) #[true, true, true, false, false, true, false, true, false, false, false, false] rfl rfl (take_ofW HT_.out HW_.out (by kernel_rfl)) (fun _ _ _ h => h) (Or.inl ⟨by rfl, ?_⟩) hHeld ?_ ?_
                    rotate_left
                    · rintro w' ⟨s0, s1, s2, s3, s4, s5, s6, s7, s8, s9, s10, s11⟩
                      go_simp
                      with_reducible rfl
                    rotate_left
                    · simp only [Act.put, List.setIfInBounds_toArray, List.set_cons_zero, List.set_cons_succ, i64_w, i32_w]
                      rfl
                    refine pure_ (i := 3) (N := some 33) (v := ?_) (a' := ?_) #[true, true, true, true, false, true, false, true, false, false, false, false] rfl rfl (any_of HT_.out (by kernel_rfl)) (fun _ _ _ h => h) (Or.inl ⟨by rfl, ?_⟩) ?_ ?_
                    rotate_left
                    · intro w'
                      go_simp
                      with_reducible rfl
                    rotate_left
                    · simp only [Act.put, List.setIfInBounds_toArray, List.set_cons_zero, List.set_cons_succ, i64_w, i32_w]
                      rfl
                    refine take_ (i := 4) (N := some 34) (v := ?_) (a' := ?_) #[true, true, true, true, true, true, false, true, false, false, false, false] rfl rfl (take_ofW HT_.out HW_.out (by kernel_rfl)) (fun _ _ _ h => h) (Or.inl ⟨by rfl, ?_⟩) hHeld ?_ ?_
                    rotate_left
                    · rintro w' ⟨s0, s1, s2, s3, s4, s5, s6, s7, s8, s9, s10, s11⟩
                      go_simp
                      with_reducible rfl
                    rotate_left
                    · simp only [Act.put, List.setIfInBounds_toArray, List.set_cons_zero, List.set_cons_succ, i64_w, i32_w]
                      rfl
                    refine take_ (i := 6) (N := some 36) (v := ?_) (a' := ?_) #[true, true, true, true, true, true, true, true, false, false, false, false] rfl rfl (take_ofW HT_.out HW_.out (by kernel_rfl)) (fun _ _ _ h => h) (Or.inl ⟨by rfl, ?_⟩) hHeld ?_ ?_
                    rotate_left
                    · rintro w' ⟨s0, s1, s2, s3, s4, s5, s6, s7, s8, s9, s10, s11⟩
                      go_simp
                      with_reducible rfl
                    rotate_left
                    · simp only [Act.put, List.setIfInBounds_toArray, List.set_cons_zero, List.set_cons_succ, i64_w, i32_w]
                      rfl
                    refine pure_ (i := 8) (N := some 38) (v := ?_) (a' := ?_) #[true, true, true, true, true, true, true, true, true, false, false, false] rfl rfl (any_of HT_.out (by kernel_rfl)) (fun _ _ _ h => h) (Or.inl ⟨by rfl, ?_⟩) ?_ ?_
                    rotate_left
                    · intro w'
                      go_simp
                      with_reducible rfl
                    rotate_left
                    · simp only [Act.put, List.setIfInBounds_toArray, List.set_cons_zero, List.set_cons_succ, i64_w, i32_w]
                      rfl
                    refine take_ (i := 9) (N := some 39) (v := ?_) (a' := ?_) #[true, true, true, true, true, true, true, true, true, true, false, false] rfl rfl (take_ofW HT_.out HW_.out (by kernel_rfl)) (fun _ _ _ h => h) (Or.inl ⟨by rfl, ?_⟩) hHeld ?_ ?_
                    rotate_left
                    · rintro w' ⟨s0, s1, s2, s3, s4, s5, s6, s7, s8, s9, s10, s11⟩
                      go_simp
                      with_reducible rfl
                    rotate_left
                    · simp only [Act.put, List.setIfInBounds_toArray, List.set_cons_zero, List.set_cons_succ, i64_w, i32_w]
                      rfl
                    refine one_ (i := 10) (N := some 40) #[true, true, true, true, true, true, true, true, true, true, true, false] rfl rfl (one_of HT_.out (by kernel_rfl)) (by decide) (fun K hK => ?_)
                    refine goes_ Try.func79 (by kernel_rfl) rfl #[.agg #[.int .i64 ((rd_T97 l0_0 x5_2).f0), .int .i64 ((rd_T97 l0_0 x5_2).f1), .slice A271_2 ((rd_T97 l0_0 x5_2).f2).length c271_2, .int .i64 ((rd_T97 l0_0 x5_2).f3)], .agg #[.int .i64 ((rd_T97 l1_0 x5_2).f0), .int .i64 ((rd_T97 l1_0 x5_2).f1), .slice A272_2 ((rd_T97 l1_0 x5_2).f2).length c272_2, .int .i64 ((rd_T97 l1_0 x5_2).f3)]] (by rfl) rfl rfl Kit.am ?_
                    with_reducible refine (spec_SameShard.calls k2 ((rd_T97 l0_0 x5_2).f0) ((rd_T97 l0_0 x5_2).f1) _ _ ((rd_T97 l0_0 x5_2).f2) ((rd_T97 l0_0 x5_2).f3) ((rd_T97 l1_0 x5_2).f0) ((rd_T97 l1_0 x5_2).f1) _ _ ((rd_T97 l1_0 x5_2).f2) ((rd_T97 l1_0 x5_2).f3) false _ ?side1 ?side2 ?side3 ?side4 A17.out).mono ?_
                    (case side1 => exact Kit.cr HR271_2.out HB.out)
                    (case side2 => exact HC271_2.out)
                    (case side3 => exact Kit.cr HR272_2.out HB.out)
                    (case side4 => exact HC272_2.out)
                    rintro e w26 ⟨rfl, hb⟩
                    refine ⟨_, rfl, ?_⟩
                    replace BK269 := Kit.bB BK269 hb
                    replace BK270 := Kit.bB BK270 hb
                    replace HB := Kit.hB hb
                    (try clear hb)
                    (try clear hb2)
                    (try clear hk)
                    (try clear hi)
                    refine hK.out _ _ ⟨(blk_cell BK269.out 0).trans rfl, (blk_cell BK269.out 1).trans rfl, (blk_cell BK270.out 0).trans rfl, (blk_cell BK270.out 1).trans rfl, (Kit.hx HB.out hw271_0), (Kit.hx HB.out hw271_1), (Kit.hx HB.out hw271_2), (Kit.hx HB.out hw271_3), (Kit.hx HB.out hw272_0), (Kit.hx HB.out hw272_1), (Kit.hx HB.out hw272_2), (Kit.hx HB.out hw272_3)⟩ (fun hHeld => ?_)
                    clear hK K
                    refine norm_ (a' := ?_) ?_ ?_
                    rotate_left
                    · show Act.put _ (some 40) _ = _
                      simp only [Act.put, List.setIfInBounds_toArray, List.set_cons_zero, List.set_cons_succ, i64_w, i32_w]
                      rfl
                    refine pure_ (i := 11) (N := some 41) (v := ?_) (a' := ?_) #[true, true, true, true, true, true, true, true, true, true, true, true] rfl rfl (any_of HT_.out (by kernel_rfl)) (fun _ _ _ h => h) (Or.inl ⟨by rfl, ?_⟩) ?_ ?_
                    rotate_left
                    · intro w'
                      go_simp
                      with_reducible rfl
                    rotate_left
                    · simp only [Act.put, List.setIfInBounds_toArray, List.set_cons_zero, List.set_cons_succ, i64_w, i32_w]
                      rfl
                    refine done_ (done_of HT_.out (by kernel_rfl)) ?_
                    try go_wp2
                    go_ret
                    exact ⟨Kit.er, Kit.bl⟩
                · rw [if_neg c16] at H
                  exact absurd H (by simp)
              · rw [if_neg c15] at H
                exact absurd H (by simp)
            · rw [if_neg c14] at H
              have c14b0 : decide (x5_2 < (l0_0.length : Int)) = false := decide_eq_false c14
              clear c14
              have H' := Aside0.mk H
              clear H
              have hnb27 := NB269_270.out
              have hnc27 := NB270_269.out
              have hcz28_0 : wr.cell? ⟨gb269, 0, none⟩ = some (.slice A0_0 l0_0.length c0_0) := (blk_cell BK269.out 0).trans rfl
              have hcz28_1 : wr.cell? ⟨gb269, 1, none⟩ = some (.slice A0_1 l0_1.length c0_1) := (blk_cell BK269.out 1).trans rfl
              have hfz28_0 := blk_frozen BK269.out 0
              have hfz28_1 := blk_frozen BK269.out 1
              go_wp2
              go_loopg [6] k2 (fun kq v6 w' => ∃ (x6_3 : Int), v6 = .int .i64 x6_3 ∧ Aside0 (spec_SameCache.l1 kq x6_3 l0_0 l0_1 l1_0 l1_1 = some r) ∧ Aside0 (kq ≤ k2) ∧ Aside0 (w'.heap[gb269]? = some (.cells #[(.slice A0_0 l0_0.length c0_0), (.slice A0_1 l0_1.length c0_1)] 62 (0, 0))) ∧ Aside0 (w'.heap[gb270]? = some (.cells #[(.slice A1_0 l1_0.length c1_0), (.slice A1_1 l1_1.length c1_1)] 62 (0, 0))) ∧ Aside0 (Below w.heap.size w w'))
              case atStart => exact ⟨(0), (by first | rfl | (simp; done) | (simp [*]; done)), H', ⟨Nat.le_refl _⟩, ⟨by (with_reducible repeat (first | refine blk_drewN ?_ _ | refine blk_drew ?_ | refine blk_alloc ?_ _)); exact BK269.out⟩, ⟨by (with_reducible repeat (first | refine blk_drewN ?_ _ | refine blk_drew ?_ | refine blk_alloc ?_ _)); exact BK270.out⟩, ⟨Kit.bl⟩⟩
              case round =>
                clear H'
                try clear c1
                try clear c2
                try clear p2
                try clear q2
                try clear hx2
                try clear c4
                try clear c6
                try clear c6b0
                try clear c6b1
                try clear c6b2
                try clear p6
                try clear c7
                try clear c10
                try clear c13
                try clear c14
                try clear c14b0
                try clear c15
                try clear c15b0
                try clear c16
                try clear c16b0
                try clear c18
                try clear c19
                try clear c23
                try clear c27
                try clear p27
                try clear q27
                try clear hx27
                try clear hcz11_0
                try clear hcz11_1
                try clear hcz12_0
                try clear hcz12_1
                try clear hcz20_0
                try clear hcz20_1
                try clear hcz24_0
                try clear hcz24_1
                try clear hcz28_0
                try clear hcz28_1
                try clear hcz8_0
                try clear hcz8_1
                try clear hcz9_0
                try clear hcz9_1
                try clear hfz11_0
                try clear hfz11_1
                try clear hfz12_0
                try clear hfz12_1
                try clear hfz20_0
                try clear hfz20_1
                try clear hfz24_0
                try clear hfz24_1
                try clear hfz28_0
                try clear hfz28_1
                try clear hfz8_0
                try clear hfz8_1
                try clear hfz9_0
                try clear hfz9_1
                try clear hx271_0
                try clear hx271_1
                try clear hx271_2
                try clear hx271_3
                try clear hx272_0
                try clear hx272_1
                try clear hx272_2
                try clear hx272_3
                try clear p2
                try clear p271
                try clear p272
                try clear q271
                try clear q272
                obtain ⟨x6_3, rfl, HA, HK3, BK269, BK270, HB⟩ := hrel
                cases gk with
                | zero => exact absurd HA.out (by simp [spec_SameCache.l1])
                | succ k3 =>
                  have H := HA.out
                  clear HA
                  simp only [spec_SameCache.l1] at H
                  by_cases c29 : x6_3 < (l0_1.length : Int)
                  · rw [if_pos c29] at H
                    have c29b0 : decide (x6_3 < (l0_1.length : Int)) = true := decide_eq_true c29
                    clear c29
                    by_cases c30 : 0 ≤ x6_3
                    · rw [if_pos c30] at H
                      have c30b0 : decide (0 ≤ x6_3) = true := decide_eq_true c30
                      clear c30
                      by_cases c31 : x6_3 < (l1_1.length : Int)
                      · rw [if_pos c31] at H
                        have c31b0 : decide (x6_3 < (l1_1.length : Int)) = true := decide_eq_true c31
                        clear c31
                        by_cases c32 : (!((((rd_T89 l0_1 x6_3).f0).toList) == (((rd_T89 l1_1 x6_3).f0).toList)) || (!(((rd_T89 l0_1 x6_3).f1) == ((rd_T89 l1_1 x6_3).f1)))) = true
                        · rw [if_pos c32] at H
                          have c32b0 : (!((((rd_T89 l0_1 x6_3).f0).toList) == (((rd_T89 l1_1 x6_3).f0).toList)) || (!(((rd_T89 l0_1 x6_3).f1) == ((rd_T89 l1_1 x6_3).f1)))) = true := c32
                          clear c32
                          obtain rfl := Option.some.inj H
                          have hnb33 := NB269_270.out
                          have hnc33 := NB270_269.out
                          have hcz34_0 : wr.cell? ⟨gb269, 0, none⟩ = some (.slice A0_0 l0_0.length c0_0) := (blk_cell BK269.out 0).trans rfl
                          have hcz34_1 : wr.cell? ⟨gb269, 1, none⟩ = some (.slice A0_1 l0_1.length c0_1) := (blk_cell BK269.out 1).trans rfl
                          have hfz34_0 := blk_frozen BK269.out 0
                          have hfz34_1 := blk_frozen BK269.out 1
                          try go_wp2
                          replace BK269 := Aside0.mk (blk_drew BK269.out)
                          replace BK270 := Aside0.mk (blk_drew BK270.out)
                          replace HB := Aside0.mk (below_drew1 HB.out)
                          have p274 : 0 ≤ (x6_3 : Int) := of_decide_eq_true Kit.asm
                          have q274 : x6_3 < (l0_1.length : Int) := of_decide_eq_true Kit.asm
                          obtain ⟨ad274, e274, hx274_0, hx274_1⟩ := at_T89 HR0_1.out x6_3 p274 q274
                          have hw274_1 := hx274_1
                          have hw274_0 := hx274_0
                          cases e274
                          replace hx274_0 := Kit.hx HB.out hx274_0
                          replace hx274_1 := Kit.hx HB.out hx274_1
                          replace p274 := eq_true p274
                          replace q274 := eq_true q274
                          have p275 : 0 ≤ (x6_3 : Int) := of_decide_eq_true Kit.asm
                          have q275 : x6_3 < (l1_1.length : Int) := of_decide_eq_true Kit.asm
                          obtain ⟨ad275, e275, hx275_0, hx275_1⟩ := at_T89 HR1_1.out x6_3 p275 q275
                          have hw275_1 := hx275_1
                          have hw275_0 := hx275_0
                          cases e275
                          replace hx275_0 := Kit.hx HB.out hx275_0
                          replace hx275_1 := Kit.hx HB.out hx275_1
                          replace p275 := eq_true p275
                          replace q275 := eq_true q275
                          refine start_ (n := 11) (S := fun w' => w'.cell? ⟨gb269, 0, none⟩ = some (.slice A0_0 l0_0.length c0_0) ∧ w'.cell? ⟨gb269, 1, none⟩ = some (.slice (some ad274) l0_1.length c0_1) ∧ w'.cell? ⟨gb270, 0, none⟩ = some (.slice A1_0 l1_0.length c1_0) ∧ w'.cell? ⟨gb270, 1, none⟩ = some (.slice (some ad275) l1_1.length c1_1) ∧ w'.cell? (ad274.add ((x6_3).toNat * 2)) = some (.string ((rd_T89 l0_1 x6_3).f0)) ∧ w'.cell? ⟨(ad274.add ((x6_3).toNat * 2)).block, (ad274.add ((x6_3).toNat * 2)).off + 1, none⟩ = some (.int .i64 ((rd_T89 l0_1 x6_3).f1)) ∧ w'.cell? (ad275.add ((x6_3).toNat * 2)) = some (.string ((rd_T89 l1_1 x6_3).f0)) ∧ w'.cell? ⟨(ad275.add ((x6_3).toNat * 2)).block, (ad275.add ((x6_3).toNat * 2)).off + 1, none⟩ = some (.int .i64 ((rd_T89 l1_1 x6_3).f1))) (ds := []) #[false, false, false, false, false, false, false, false, false, false, false] (by kernel_rfl) rfl rfl ⟨(blk_cell BK269.out 0).trans rfl, (blk_cell BK269.out 1).trans rfl, (blk_cell BK270.out 0).trans rfl, (blk_cell BK270.out 1).trans rfl, (Kit.hx HB.out hw274_0), (Kit.hx HB.out hw274_1), (Kit.hx HB.out hw275_0), (Kit.hx HB.out hw275_1)⟩ (fun hHeld => ?_); refine with_tabW spec_SameCache.tab11 spec_SameCache.bits11 (fun HT_ HW_ => ?_)
                          generalize wr.drew = w35 at BK269 BK270 HB hx274_0 hx274_1 hx275_0 hx275_1 hHeld ⊢
                          refine pure_ (i := 0) (N := some 49) (v := ?_) (a' := ?_) #[true, false, false, false, false, false, false, false, false, false, false] rfl rfl (any_of HT_.out (by kernel_rfl)) (fun _ _ _ h => h) (Or.inl ⟨by rfl, ?_⟩) ?_ ?_
                          rotate_left
                          · intro w'
                            go_simp
                            with_reducible rfl
                          rotate_left
                          · simp only [Act.put, List.setIfInBounds_toArray, List.set_cons_zero, List.set_cons_succ, i64_w, i32_w]
                            rfl
                          refine pure_ (i := 2) (N := some 51) (v := ?_) (a' := ?_) #[true, false, true, false, false, false, false, false, false, false, false] rfl rfl (any_of HT_.out (by kernel_rfl)) (fun _ _ _ h => h) (Or.inl ⟨by rfl, ?_⟩) ?_ ?_
                          rotate_left
                          · intro w'
                            go_simp
                            with_reducible rfl
                          rotate_left
                          · simp only [Act.put, List.setIfInBounds_toArray, List.set_cons_zero, List.set_cons_succ, i64_w, i32_w]
                            rfl
                          refine pure_ (i := 5) (N := some 54) (v := ?_) (a' := ?_) #[true, false, true, false, false, true, false, false, false, false, false] rfl rfl (any_of HT_.out (by kernel_rfl)) (fun _ _ _ h => h) (Or.inl ⟨by rfl, ?_⟩) ?_ ?_
                          rotate_left
                          · intro w'
                            go_simp
                            with_reducible rfl
                          rotate_left
                          · simp only [Act.put, List.setIfInBounds_toArray, List.set_cons_zero, List.set_cons_succ, i64_w, i32_w]
                            rfl
                          refine pure_ (i := 7) (N := some 56) (v := ?_) (a' := ?_) #[true, false, true, false, false, true, false, true, false, false, false] rfl rfl (any_of HT_.out (by kernel_rfl)) (fun _ _ _ h => h) (Or.inl ⟨by rfl, ?_⟩) ?_ ?_
                          rotate_left
                          · intro w'
                            go_simp
                            with_reducible rfl
                          rotate_left
                          · simp only [Act.put, List.setIfInBounds_toArray, List.set_cons_zero, List.set_cons_succ, i64_w, i32_w]
                            rfl
                          refine take_ (i := 1) (N := some 50) (v := ?_) (a' := ?_) #[true, true, true, false, false, true, false, true, false, false, false] rfl rfl (take_ofW HT_.out HW_.out (by kernel_rfl)) (fun _ _ _ h => h) (Or.inl ⟨by rfl, ?_⟩) hHeld ?_ ?_
                          rotate_left
                          · rintro w' ⟨s0, s1, s2, s3, s4, s5, s6, s7⟩
                            go_simp
                            with_reducible rfl
                          rotate_left
                          · simp only [Act.put, List.setIfInBounds_toArray, List.set_cons_zero, List.set_cons_succ, i64_w, i32_w]
                            rfl
                          refine pure_ (i := 3) (N := some 52) (v := ?_) (a' := ?_) #[true, true, true, true, false, true, false, true, false, false, false] rfl rfl (any_of HT_.out (by kernel_rfl)) (fun _ _ _ h => h) (Or.inl ⟨by rfl, ?_⟩) ?_ ?_
                          rotate_left
                          · intro w'
                            go_simp
                            with_reducible rfl
                          rotate_left
                          · simp only [Act.put, List.setIfInBounds_toArray, List.set_cons_zero, List.set_cons_succ, i64_w, i32_w]
                            rfl
                          refine take_ (i := 4) (N := some 53) (v := ?_) (a' := ?_) #[true, true, true, true, true, true, false, true, false, false, false] rfl rfl (take_ofW HT_.out HW_.out (by kernel_rfl)) (fun _ _ _ h => h) (Or.inl ⟨by rfl, ?_⟩) hHeld ?_ ?_
                          rotate_left
                          · rintro w' ⟨s0, s1, s2, s3, s4, s5, s6, s7⟩
                            go_simp
                            with_reducible rfl
                          rotate_left
                          · simp only [Act.put, List.setIfInBounds_toArray, List.set_cons_zero, List.set_cons_succ, i64_w, i32_w]
                            rfl
                          refine take_ (i := 6) (N := some 55) (v := ?_) (a' := ?_) #[true, true, true, true, true, true, true, true, false, false, false] rfl rfl (take_ofW HT_.out HW_.out (by kernel_rfl)) (fun _ _ _ h => h) (Or.inl ⟨by rfl, ?_⟩) hHeld ?_ ?_
                          rotate_left
                          · rintro w' ⟨s0, s1, s2, s3, s4, s5, s6, s7⟩
                            go_simp
                            with_reducible rfl
                          rotate_left
                          · simp only [Act.put, List.setIfInBounds_toArray, List.set_cons_zero, List.set_cons_succ, i64_w, i32_w]
                            rfl
                          refine pure_ (i := 8) (N := some 57) (v := ?_) (a' := ?_) #[true, true, true, true, true, true, true, true, true, false, false] rfl rfl (any_of HT_.out (by kernel_rfl)) (fun _ _ _ h => h) (Or.inl ⟨by rfl, ?_⟩) ?_ ?_
                          rotate_left
                          · intro w'
                            go_simp
                            with_reducible rfl
                          rotate_left
                          · simp only [Act.put, List.setIfInBounds_toArray, List.set_cons_zero, List.set_cons_succ, i64_w, i32_w]
                            rfl
                          refine take_ (i := 9) (N := some 58) (v := ?_) (a' := ?_) #[true, true, true, true, true, true, true, true, true, true, false] rfl rfl (take_ofW HT_.out HW_.out (by kernel_rfl)) (fun _ _ _ h => h) (Or.inl ⟨by rfl, ?_⟩) hHeld ?_ ?_
                          rotate_left
                          · rintro w' ⟨s0, s1, s2, s3, s4, s5, s6, s7⟩
                            go_simp
                            with_reducible rfl
                          rotate_left
                          · simp only [Act.put, List.setIfInBounds_toArray, List.set_cons_zero, List.set_cons_succ, i64_w, i32_w]
                            rfl
                          refine pure_ (i := 10) (N := some 59) (v := ?_) (a' := ?_) #[true, true, true, true, true, true, true, true, true, true, true] rfl rfl (any_of HT_.out (by kernel_rfl)) (fun _ _ _ h => h) (Or.inl ⟨by rfl, ?_⟩) ?_ ?_
                          rotate_left
                          · intro w'
                            go_simp
                            with_reducible rfl
                          rotate_left
                          · simp only [Act.put, List.setIfInBounds_toArray, List.set_cons_zero, List.set_cons_succ, i64_w, i32_w]
                            rfl
                          refine done_ (done_of HT_.out (by kernel_rfl)) ?_
                          try go_wp2
                          go_ret
                          exact ⟨Kit.er, Kit.bl⟩
                        · rw [if_neg c32] at H
                          have c32b0 : (!((((rd_T89 l0_1 x6_3).f0).toList) == (((rd_T89 l1_1 x6_3).f0).toList)) || (!(((rd_T89 l0_1 x6_3).f1) == ((rd_T89 l1_1 x6_3).f1)))) = false := by simpa using c32
                          clear c32
                          have H' := Aside0.mk H
                          clear H
                          have hnb36 := NB269_270.out
                          have hnc36 := NB270_269.out
                          have hcz37_0 : wr.cell? ⟨gb269, 0, none⟩ = some (.slice A0_0 l0_0.length c0_0) := (blk_cell BK269.out 0).trans rfl
                          have hcz37_1 : wr.cell? ⟨gb269, 1, none⟩ = some (.slice A0_1 l0_1.length c0_1) := (blk_cell BK269.out 1).trans rfl
                          have hfz37_0 := blk_frozen BK269.out 0
                          have hfz37_1 := blk_frozen BK269.out 1
                          try go_wp2
                          replace BK269 := Aside0.mk (blk_drew BK269.out)
                          replace BK270 := Aside0.mk (blk_drew BK270.out)
                          replace HB := Aside0.mk (below_drew1 HB.out)
                          have p274 : 0 ≤ (x6_3 : Int) := of_decide_eq_true Kit.asm
                          have q274 : x6_3 < (l0_1.length : Int) := of_decide_eq_true Kit.asm
                          obtain ⟨ad274, e274, hx274_0, hx274_1⟩ := at_T89 HR0_1.out x6_3 p274 q274
                          have hw274_1 := hx274_1
                          have hw274_0 := hx274_0
                          cases e274
                          replace hx274_0 := Kit.hx HB.out hx274_0
                          replace hx274_1 := Kit.hx HB.out hx274_1
                          replace p274 := eq_true p274
                          replace q274 := eq_true q274
                          have p275 : 0 ≤ (x6_3 : Int) := of_decide_eq_true Kit.asm
                          have q275 : x6_3 < (l1_1.length : Int) := of_decide_eq_true Kit.asm
                          obtain ⟨ad275, e275, hx275_0, hx275_1⟩ := at_T89 HR1_1.out x6_3 p275 q275
                          have hw275_1 := hx275_1
                          have hw275_0 := hx275_0
                          cases e275
                          replace hx275_0 := Kit.hx HB.out hx275_0
                          replace hx275_1 := Kit.hx HB.out hx275_1
                          replace p275 := eq_true p275
                          replace q275 := eq_true q275
                          refine start_ (n := 11) (S := fun w' => w'.cell? ⟨gb269, 0, none⟩ = some (.slice A0_0 l0_0.length c0_0) ∧ w'.cell? ⟨gb269, 1, none⟩ = some (.slice (some ad274) l0_1.length c0_1) ∧ w'.cell? ⟨gb270, 0, none⟩ = some (.slice A1_0 l1_0.length c1_0) ∧ w'.cell? ⟨gb270, 1, none⟩ = some (.slice (some ad275) l1_1.length c1_1) ∧ w'.cell? (ad274.add ((x6_3).toNat * 2)) = some (.string ((rd_T89 l0_1 x6_3).f0)) ∧ w'.cell? ⟨(ad274.add ((x6_3).toNat * 2)).block, (ad274.add ((x6_3).toNat * 2)).off + 1, none⟩ = some (.int .i64 ((rd_T89 l0_1 x6_3).f1)) ∧ w'.cell? (ad275.add ((x6_3).toNat * 2)) = some (.string ((rd_T89 l1_1 x6_3).f0)) ∧ w'.cell? ⟨(ad275.add ((x6_3).toNat * 2)).block, (ad275.add ((x6_3).toNat * 2)).off + 1, none⟩ = some (.int .i64 ((rd_T89 l1_1 x6_3).f1))) (ds := []) #[false, false, false, false, false, false, false, false, false, false, false] (by kernel_rfl) rfl rfl ⟨(blk_cell BK269.out 0).trans rfl, (blk_cell BK269.out 1).trans rfl, (blk_cell BK270.out 0).trans rfl, (blk_cell BK270.out 1).trans rfl, (Kit.hx HB.out hw274_0), (Kit.hx HB.out hw274_1), (Kit.hx HB.out hw275_0), (Kit.hx HB.out hw275_1)⟩ (fun hHeld => ?_); refine with_tabW spec_SameCache.tab11 spec_SameCache.bits11 (fun HT_ HW_ => ?_)
                          generalize wr.drew = w38 at BK269 BK270 HB hx274_0 hx274_1 hx275_0 hx275_1 hHeld ⊢
                          refine pure_ (i := 0) (N := some 49) (v := ?_) (a' := ?_) #[true, false, false, false, false, false, false, false, false, false, false] rfl rfl (any_of HT_.out (by kernel_rfl)) (fun _ _ _ h => h) (Or.inl ⟨by rfl, ?_⟩) ?_ ?_
                          rotate_left
                          · intro w'
                            go_simp
                            with_reducible rfl
                          rotate_left
                          · simp only [Act.put, List.setIfInBounds_toArray, List.set_cons_zero, List.set_cons_succ, i64_w, i32_w]
                            rfl
                          refine pure_ (i := 2) (N := some 51) (v := ?_) (a' := ?_) #[true, false, true, false, false, false, false, false, false, false, false] rfl rfl (any_of HT_.out (by kernel_rfl)) (fun _ _ _ h => h) (Or.inl ⟨by rfl, ?_⟩) ?_ ?_
                          rotate_left
                          · intro w'
                            go_simp
                            with_reducible rfl
                          rotate_left
                          · simp only [Act.put, List.setIfInBounds_toArray, List.set_cons_zero, List.set_cons_succ, i64_w, i32_w]
                            rfl
                          refine pure_ (i := 5) (N := some 54) (v := ?_) (a' := ?_) #[true, false, true, false, false, true, false, false, false, false, false] rfl rfl (any_of HT_.out (by kernel_rfl)) (fun _ _ _ h => h) (Or.inl ⟨by rfl, ?_⟩) ?_ ?_
                          rotate_left
                          · intro w'
                            go_simp
                            with_reducible rfl
                          rotate_left
                          · simp only [Act.put, List.setIfInBounds_toArray, List.set_cons_zero, List.set_cons_succ, i64_w, i32_w]
                            rfl
                          refine pure_ (i := 7) (N := some 56) (v := ?_) (a' := ?_) #[true, false, true, false, false, true, false, true, false, false, false] rfl rfl (any_of HT_.out (by kernel_rfl)) (fun _ _ _ h => h) (Or.inl ⟨by rfl, ?_⟩) ?_ ?_
                          rotate_left
                          · intro w'
                            go_simp
                            with_reducible rfl
                          rotate_left
                          · simp only [Act.put, List.setIfInBounds_toArray, List.set_cons_zero, List.set_cons_succ, i64_w, i32_w]
                            rfl
                          refine take_ (i := 1) (N := some 50) (v := ?_) (a' := ?_) #[true, true, true, false, false, true, false, true, false, false, false] rfl rfl (take_ofW HT_.out HW_.out (by kernel_rfl)) (fun _ _ _ h => h) (Or.inl ⟨by rfl, ?_⟩) hHeld ?_ ?_
                          rotate_left
                          · rintro w' ⟨s0, s1, s2, s3, s4, s5, s6, s7⟩
                            go_simp
                            with_reducible rfl
                          rotate_left
                          · simp only [Act.put, List.setIfInBounds_toArray, List.set_cons_zero, List.set_cons_succ, i64_w, i32_w]
                            rfl
                          refine pure_ (i := 3) (N := some 52) (v := ?_) (a' := ?_) #[true, true, true, true, false, true, false, true, false, false, false] rfl rfl (any_of HT_.out (by kernel_rfl)) (fun _ _ _ h => h) (Or.inl ⟨by rfl, ?_⟩) ?_ ?_
                          rotate_left
                          · intro w'
                            go_simp
                            with_reducible rfl
                          rotate_left
                          · simp only [Act.put, List.setIfInBounds_toArray, List.set_cons_zero, List.set_cons_succ, i64_w, i32_w]
                            rfl
                          refine take_ (i := 4) (N := some 53) (v := ?_) (a' := ?_) #[true, true, true, true, true, true, false, true, false, false, false] rfl rfl (take_ofW HT_.out HW_.out (by kernel_rfl)) (fun _ _ _ h => h) (Or.inl ⟨by rfl, ?_⟩) hHeld ?_ ?_
                          rotate_left
                          · rintro w' ⟨s0, s1, s2, s3, s4, s5, s6, s7⟩
                            go_simp
                            with_reducible rfl
                          rotate_left
                          · simp only [Act.put, List.setIfInBounds_toArray, List.set_cons_zero, List.set_cons_succ, i64_w, i32_w]
                            rfl
                          refine take_ (i := 6) (N := some 55) (v := ?_) (a' := ?_) #[true, true, true, true, true, true, true, true, false, false, false] rfl rfl (take_ofW HT_.out HW_.out (by kernel_rfl)) (fun _ _ _ h => h) (Or.inl ⟨by rfl, ?_⟩) hHeld ?_ ?_
                          rotate_left
                          · rintro w' ⟨s0, s1, s2, s3, s4, s5, s6, s7⟩
                            go_simp
                            with_reducible rfl
                          rotate_left
                          · simp only [Act.put, List.setIfInBounds_toArray, List.set_cons_zero, List.set_cons_succ, i64_w, i32_w]
                            rfl
                          refine pure_ (i := 8) (N := some 57) (v := ?_) (a' := ?_) #[true, true, true, true, true, true, true, true, true, false, false] rfl rfl (any_of HT_.out (by kernel_rfl)) (fun _ _ _ h => h) (Or.inl ⟨by rfl, ?_⟩) ?_ ?_
                          rotate_left
                          · intro w'
                            go_simp
                            with_reducible rfl
                          rotate_left
                          · simp only [Act.put, List.setIfInBounds_toArray, List.set_cons_zero, List.set_cons_succ, i64_w, i32_w]
                            rfl
                          refine take_ (i := 9) (N := some 58) (v := ?_) (a' := ?_) #[true, true, true, true, true, true, true, true, true, true, false] rfl rfl (take_ofW HT_.out HW_.out (by kernel_rfl)) (fun _ _ _ h => h) (Or.inl ⟨by rfl, ?_⟩) hHeld ?_ ?_
                          rotate_left
                          · rintro w' ⟨s0, s1, s2, s3, s4, s5, s6, s7⟩
                            go_simp
                            with_reducible rfl
                          rotate_left
                          · simp only [Act.put, List.setIfInBounds_toArray, List.set_cons_zero, List.set_cons_succ, i64_w, i32_w]
                            rfl
                          refine pure_ (i := 10) (N := some 59) (v := ?_) (a' := ?_) #[true, true, true, true, true, true, true, true, true, true, true] rfl rfl (any_of HT_.out (by kernel_rfl)) (fun _ _ _ h => h) (Or.inl ⟨by rfl, ?_⟩) ?_ ?_
                          rotate_left
                          · intro w'
                            go_simp
                            with_reducible rfl
                          rotate_left
                          · simp only [Act.put, List.setIfInBounds_toArray, List.set_cons_zero, List.set_cons_succ, i64_w, i32_w]
                            rfl
                          refine done_ (done_of HT_.out (by kernel_rfl)) ?_
                          try go_wp2
                          go_roundg k3
                          case measure => have := HJ2.out; have := HK2.out; have := HK3.out; omega
                          case rel => exact ⟨(wrap64 (x6_3 + 1)), (by first | rfl | (simp; done) | (simp [*]; done)), H', ⟨by have := HJ2.out; have := HK2.out; have := HK3.out; omega⟩, ⟨by (with_reducible repeat (first | refine blk_drewN ?_ _ | refine blk_drew ?_ | refine blk_alloc ?_ _)); exact BK269.out⟩, ⟨by (with_reducible repeat (first | refine blk_drewN ?_ _ | refine blk_drew ?_ | refine blk_alloc ?_ _)); exact BK270.out⟩, ⟨Kit.bl⟩⟩
                      · rw [if_neg c31] at H
                        exact absurd H (by simp)
                    · rw [if_neg c30] at H
                      exact absurd H (by simp)
                  · rw [if_neg c29] at H
                    have c29b0 : decide (x6_3 < (l0_1.length : Int)) = false := decide_eq_false c29
                    clear c29
                    obtain rfl := Option.some.inj H
                    have hnb39 := NB269_270.out
                    have hnc39 := NB270_269.out
                    have hcz40_0 : wr.cell? ⟨gb269, 0, none⟩ = some (.slice A0_0 l0_0.length c0_0) := (blk_cell BK269.out 0).trans rfl
                    have hcz40_1 : wr.cell? ⟨gb269, 1, none⟩ = some (.slice A0_1 l0_1.length c0_1) := (blk_cell BK269.out 1).trans rfl
                    have hfz40_0 := blk_frozen BK269.out 0
                    have hfz40_1 := blk_frozen BK269.out 1
                    go_wp2
                    go_ret
                    exact ⟨Kit.er, Kit.bl⟩

end Go.Proofs.Ythbmemimpakljaa.QFnExactSameCache
