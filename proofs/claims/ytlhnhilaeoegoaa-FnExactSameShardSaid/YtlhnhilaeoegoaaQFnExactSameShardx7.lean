-- Written by own.py, a program of this session's own, which calls the kit's print. Lean checks it.
import Derived.Test.YtlhnhilaeoegoaaQFnExactSameShardx0
import Derived.Test.YtlhnhilaeoegoaaQFnExactSameShardx6
namespace Go.Proofs.Ytlhnhilaeoegoaa.QFnExactSameShard
open Go.RowKit Go.Proofs.YtlhnhilaeoegoaaW.PrintWords Go.Proofs.YtlhnhilaeoegoaaW.PrintLast Go.Proofs.YtlhnhilaeoegoaaW.PrintMore
attribute [local go_sem] Kit.run_store_one max2_int min2_int max_two min_two max_three min_three max_four min_four   -- for this text's walks alone
set_option linter.unusedVariables false
set_option linter.unusedSimpArgs false

/-! ### impl_SameShard_1: function 75 -/
def impl_SameShard_1.f (k : Nat) (a0_0 : ByteArray) (l0_1 : List (S95)) (a0_2 : Int) (l0_3 : List (S95)) (a0_4 : ByteArray) (a0_5 : Int) (a0_6 : Int) (a0_7 : Bool) (a1_0 : ByteArray) (l1_1 : List (S95)) (a1_2 : Int) (l1_3 : List (S95)) (a1_4 : ByteArray) (a1_5 : Int) (a1_6 : Int) (a1_7 : Bool) : Option (Bool) := if (a0_7 == a1_7) = true then ((impl_sameStored.f k a0_0 l0_1 a0_2 l0_3 a0_4 a0_5 a0_6 a1_0 l1_1 a1_2 l1_3 a1_4 a1_5 a1_6).bind fun t234 => (some t234)) else (some false)
theorem impl_SameShard_1.mono : ∀ a0 a1 a2 a3 a4 a5 a6 a7 a8 a9 a10 a11 a12 a13 a14 a15 k, LeO (impl_SameShard_1.f k a0 a1 a2 a3 a4 a5 a6 a7 a8 a9 a10 a11 a12 a13 a14 a15) (impl_SameShard_1.f (k + 1) a0 a1 a2 a3 a4 a5 a6 a7 a8 a9 a10 a11 a12 a13 a14 a15) := by
  intro a0 a1 a2 a3 a4 a5 a6 a7 a8 a9 a10 a11 a12 a13 a14 a15 k
  unfold impl_SameShard_1.f
  repeat' first
      | (with_reducible exact impl_sameStored.mono _ _ _ _ _ _ _ _ _ _ _ _ _ _ _)
      | (with_reducible exact LeO.refl _)
      | (with_reducible exact LeO.none _)
      | (with_reducible refine LeO.ite ?_ ?_)
      | (with_reducible refine LeO.bind ?_ (fun _ => ?_))
      | exact impl_sameStored.mono _ _ _ _ _ _ _ _ _ _ _ _ _ _ _
      | exact LeO.none _
      | refine LeO.ite ?_ ?_
      | refine LeO.bind ?_ (fun _ => ?_)
set_option maxHeartbeats 8000000 in
set_option maxRecDepth 100000 in
theorem impl_SameShard_1.calls (k : Nat) (a0_0 : ByteArray) (A0_1 : Option Addr) (c0_1 : Nat) (l0_1 : List (S95)) (a0_2 : Int) (A0_3 : Option Addr) (c0_3 : Nat) (l0_3 : List (S95)) (a0_4 : ByteArray) (a0_5 : Int) (a0_6 : Int) (a0_7 : Bool) (a1_0 : ByteArray) (A1_1 : Option Addr) (c1_1 : Nat) (l1_1 : List (S95)) (a1_2 : Int) (A1_3 : Option Addr) (c1_3 : Nat) (l1_3 : List (S95)) (a1_4 : ByteArray) (a1_5 : Int) (a1_6 : Int) (a1_7 : Bool) (r : Bool) (w : World) (hr0_1 : Kd.C k95 w A0_1 l0_1.length l0_1) (hc0_1 : l0_1.length ≤ c0_1) (hr0_3 : Kd.C k95 w A0_3 l0_3.length l0_3) (hc0_3 : l0_3.length ≤ c0_3) (hr1_1 : Kd.C k95 w A1_1 l1_1.length l1_1) (hc1_1 : l1_1.length ≤ c1_1) (hr1_3 : Kd.C k95 w A1_3 l1_3.length l1_3) (hc1_3 : l1_3.length ≤ c1_3) (h : impl_SameShard_1.f k a0_0 l0_1 a0_2 l0_3 a0_4 a0_5 a0_6 a0_7 a1_0 l1_1 a1_2 l1_3 a1_4 a1_5 a1_6 a1_7 = some r) :
    Calls Try.prog 75 #[.agg #[.string a0_0, .slice A0_1 l0_1.length c0_1, .int .i64 a0_2, .slice A0_3 l0_3.length c0_3, .string a0_4, .int .i64 a0_5, .int .i64 a0_6, .bool a0_7], .agg #[.string a1_0, .slice A1_1 l1_1.length c1_1, .int .i64 a1_2, .slice A1_3 l1_3.length c1_3, .string a1_4, .int .i64 a1_5, .int .i64 a1_6, .bool a1_7]] w fun e w' => e = .returned (.bool r) ∧ Below w.heap.size w w' := by
  have hu87 := Try.underlying87
  have hu85 := Try.underlying85
  have HR0_1 := Aside0.mk hr0_1
  have HC0_1 := Aside0.mk hc0_1
  clear hr0_1 hc0_1
  have HR0_3 := Aside0.mk hr0_3
  have HC0_3 := Aside0.mk hc0_3
  clear hr0_3 hc0_3
  have HR1_1 := Aside0.mk hr1_1
  have HC1_1 := Aside0.mk hc1_1
  clear hr1_1 hc1_1
  have HR1_3 := Aside0.mk hr1_3
  have HC1_3 := Aside0.mk hc1_3
  clear hr1_3 hc1_3
  have HB := Aside0.mk (Below.refl w.heap.size w)
  have H : (if (a0_7 == a1_7) = true then ((impl_sameStored.f k a0_0 l0_1 a0_2 l0_3 a0_4 a0_5 a0_6 a1_0 l1_1 a1_2 l1_3 a1_4 a1_5 a1_6).bind fun t234 => (some t234)) else (some false)) = some r := h
  clear h
  by_cases c3 : (a0_7 == a1_7) = true
  · rw [if_pos c3] at H
    have c3b0 : (a0_7 == a1_7) = true := c3
    (try (have c3b1 : decide (a0_7 = a1_7) = true := by simpa using c3))
    (try (have c3b2 : (a0_7 == a1_7) = true := by simpa using c3))
    clear c3
    replace H := Option.bind_eq_some_iff.mp H
    obtain ⟨t234, A40, H⟩ := H
    replace H : (some t234) = some r := H
    have A4 := Aside0.mk A40
    clear A40
    obtain rfl := Option.some.inj H
    go_enter Try.func75, Try.ntmps75
    go_wp2_with (first | ((with_reducible refine gate_dst (N := 2) rfl ?_); refine box_event ?hg (N := 2) ?hd (cs := #[.string a0_0, .slice A0_1 l0_1.length c0_1, .int .i64 a0_2, .slice A0_3 l0_3.length c0_3, .string a0_4, .int .i64 a0_5, .int .i64 a0_6, .bool a0_7]) (t := 87) ?hr ?_; (case hd => rfl); (case hg => rfl); (case hr => exact Kit.hr); intro gb232 hg w5 hbox hb; have BK232 := Aside0.mk (hbox); have GW232 := Aside0.mk (Kit.gx (w := w) hg); have GE232 := Aside0.mk (Kit.gx (w := w) hg); replace HB := Aside0.mk (below_step Kit.bl hb); clear hb hbox hg) | ((with_reducible refine gate_dst (N := 3) rfl ?_); refine box_event ?hg (N := 3) ?hd (cs := #[.string a1_0, .slice A1_1 l1_1.length c1_1, .int .i64 a1_2, .slice A1_3 l1_3.length c1_3, .string a1_4, .int .i64 a1_5, .int .i64 a1_6, .bool a1_7]) (t := 87) ?hr ?_; (case hd => rfl); (case hg => rfl); (case hr => exact Kit.hr); intro gb233 hg w6 hbox hb; have BK233 := Aside0.mk (hbox); have GW233 := Aside0.mk (Kit.gx (w := w) hg); have GE233 := Aside0.mk (Kit.gx (w := w) hg); replace HB := Aside0.mk (below_step Kit.bl hb); have NB232_233 := Aside0.mk (Kit.nlt hg BK232.out); have NB233_232 := Aside0.mk (Kit.ngt hg BK232.out); replace BK232 := Aside0.mk (Kit.bb BK232.out hb); clear hb hbox hg; have hnb7 := NB232_233.out; have hnc7 := NB233_232.out; obtain ⟨hcz8_0, hcz8_1, hcz8_2, hcz8_3, hcz8_4, hcz8_5, hcz8_6, hcz8_7, hfz8_0, hfz8_1, hfz8_2, hfz8_3, hfz8_4, hfz8_5, hfz8_6, hfz8_7⟩ := Kit.c8 BK232.out; obtain ⟨hcz9_0, hcz9_1, hcz9_2, hcz9_3, hcz9_4, hcz9_5, hcz9_6, hcz9_7, hfz9_0, hfz9_1, hfz9_2, hfz9_3, hfz9_4, hfz9_5, hfz9_6, hfz9_7⟩ := Kit.c8 BK233.out) | (go_at_call 76; (with_reducible refine (impl_sameStored.calls k a0_0 _ _ l0_1 a0_2 _ _ l0_3 a0_4 a0_5 a0_6 a1_0 _ _ l1_1 a1_2 _ _ l1_3 a1_4 a1_5 a1_6 t234 _ ?side1 ?side2 ?side3 ?side4 ?side5 ?side6 ?side7 ?side8 A4.out).mono ?_); (case side1 => exact Kit.cx ((Kd.C_below HR0_1.out HB.out))); (case side2 => exact HC0_1.out); (case side3 => exact Kit.cx ((Kd.C_below HR0_3.out HB.out))); (case side4 => exact HC0_3.out); (case side5 => exact Kit.cx ((Kd.C_below HR1_1.out HB.out))); (case side6 => exact HC1_1.out); (case side7 => exact Kit.cx ((Kd.C_below HR1_3.out HB.out))); (case side8 => exact HC1_3.out); rintro e w10 ⟨rfl, hb⟩; replace BK232 := Aside0.mk (Kit.bb BK232.out hb); replace BK233 := Aside0.mk (Kit.bb BK233.out hb); replace HB := Aside0.mk (below_step Kit.bl hb); (try clear hb); (try clear hb2); (try clear hk); (try clear hi)))
    go_ret
    exact ⟨Kit.er, Kit.bl⟩
  · rw [if_neg c3] at H
    have c3b0 : (a0_7 == a1_7) = false := by simpa using c3
    (try (have c3b1 : decide (a0_7 = a1_7) = false := by simpa using c3))
    (try (have c3b2 : (a0_7 == a1_7) = false := by simpa using c3))
    (try (have c3b3 : ¬ (a0_7 = a1_7) := by simpa using c3))
    clear c3
    obtain rfl := Option.some.inj H
    go_enter Try.func75, Try.ntmps75
    go_wp2_with (first | ((with_reducible refine gate_dst (N := 2) rfl ?_); refine box_event ?hg (N := 2) ?hd (cs := #[.string a0_0, .slice A0_1 l0_1.length c0_1, .int .i64 a0_2, .slice A0_3 l0_3.length c0_3, .string a0_4, .int .i64 a0_5, .int .i64 a0_6, .bool a0_7]) (t := 87) ?hr ?_; (case hd => rfl); (case hg => rfl); (case hr => exact Kit.hr); intro gb232 hg w11 hbox hb; have BK232 := Aside0.mk (hbox); have GW232 := Aside0.mk (Kit.gx (w := w) hg); have GE232 := Aside0.mk (Kit.gx (w := w) hg); replace HB := Aside0.mk (below_step Kit.bl hb); clear hb hbox hg) | ((with_reducible refine gate_dst (N := 3) rfl ?_); refine box_event ?hg (N := 3) ?hd (cs := #[.string a1_0, .slice A1_1 l1_1.length c1_1, .int .i64 a1_2, .slice A1_3 l1_3.length c1_3, .string a1_4, .int .i64 a1_5, .int .i64 a1_6, .bool a1_7]) (t := 87) ?hr ?_; (case hd => rfl); (case hg => rfl); (case hr => exact Kit.hr); intro gb233 hg w12 hbox hb; have BK233 := Aside0.mk (hbox); have GW233 := Aside0.mk (Kit.gx (w := w) hg); have GE233 := Aside0.mk (Kit.gx (w := w) hg); replace HB := Aside0.mk (below_step Kit.bl hb); have NB232_233 := Aside0.mk (Kit.nlt hg BK232.out); have NB233_232 := Aside0.mk (Kit.ngt hg BK232.out); replace BK232 := Aside0.mk (Kit.bb BK232.out hb); clear hb hbox hg; have hnb13 := NB232_233.out; have hnc13 := NB233_232.out; obtain ⟨hcz14_0, hcz14_1, hcz14_2, hcz14_3, hcz14_4, hcz14_5, hcz14_6, hcz14_7, hfz14_0, hfz14_1, hfz14_2, hfz14_3, hfz14_4, hfz14_5, hfz14_6, hfz14_7⟩ := Kit.c8 BK232.out; obtain ⟨hcz15_0, hcz15_1, hcz15_2, hcz15_3, hcz15_4, hcz15_5, hcz15_6, hcz15_7, hfz15_0, hfz15_1, hfz15_2, hfz15_3, hfz15_4, hfz15_5, hfz15_6, hfz15_7⟩ := Kit.c8 BK233.out))
    go_ret
    exact ⟨Kit.er, Kit.bl⟩

/-! ### impl_Slot: function 74, at the function value 75, its own contract -/
def impl_Slot.f (k : Nat) (l0 l1 : List S87) (_ : Unit) : Option Bool := Kit.eqBy (fun x y => impl_SameShard_1.f k x.f0.f0 x.f0.f1 x.f0.f2.f0 x.f0.f2.f1 x.f0.f2.f2 x.f0.f3 x.f0.f4 x.f1 y.f0.f0 y.f0.f1 y.f0.f2.f0 y.f0.f2.f1 y.f0.f2.f2 y.f0.f3 y.f0.f4 y.f1) l0 l1
theorem impl_Slot.mono : ∀ a0 a1 a2 k, LeO (impl_Slot.f k a0 a1 a2) (impl_Slot.f (k + 1) a0 a1 a2) := fun a0 a1 _ k => Kit.eqBy_mono (fun x y => impl_SameShard_1.mono _ _ _ _ _ _ _ _ _ _ _ _ _ _ _ _ k) a0 a1
set_option maxHeartbeats 8000000 in
set_option maxRecDepth 100000 in
theorem impl_Slot.calls (k : Nat) (A0 : Option Addr) (c0 : Nat) (l0 : List S87) (A1 : Option Addr) (c1 : Nat) (l1 : List S87) (a2 : Unit) (r : Bool) (w : World) (hr0 : Kd.C k87 w A0 l0.length l0) (hc0 : l0.length ≤ c0) (hr1 : Kd.C k87 w A1 l1.length l1) (hc1 : l1.length ≤ c1) (h : impl_Slot.f k l0 l1 a2 = some r) :
    Calls Try.prog 74 #[.slice A0 l0.length c0, .slice A1 l1.length c1, .func (.func 75) #[] #[]] w fun e w' => e = .returned (.bool r) ∧ Below w.heap.size w w' := by
  have hu := Try.underlying87
  have eg := enters_of Try.func75 (by kernel_rfl) rfl
  have HR0 := Aside0.mk hr0
  have HR1 := Aside0.mk hr1
  have HM := Aside0.mk hr0.2.1
  have HP : Aside0 (∀ (W : World) (x y : S87) (cs ds : List Value) (t : Bool), Below w.heap.size w W → Kd.K k87 W x cs → Kd.K k87 W y ds → impl_SameShard_1.f k x.f0.f0 x.f0.f1 x.f0.f2.f0 x.f0.f2.f1 x.f0.f2.f2 x.f0.f3 x.f0.f4 x.f1 y.f0.f0 y.f0.f1 y.f0.f2.f0 y.f0.f2.f1 y.f0.f2.f2 y.f0.f3 y.f0.f4 y.f1 = some t → Calls Try.prog 75 #[.agg cs.toArray, .agg ds.toArray] W fun e w' => e = .returned (.bool t) ∧ Below W.heap.size W w') := ⟨by
    intro W x y cs ds t hb hx hy ht
    obtain ⟨A7_1, c7_1, A7_3, c7_3, rfl, l7_1, g7_1, l7_3, g7_3⟩ := k87_open hx
    obtain ⟨A8_1, c8_1, A8_3, c8_3, rfl, l8_1, g8_1, l8_3, g8_3⟩ := k87_open hy
    refine (impl_SameShard_1.calls k x.f0.f0 A7_1 c7_1 x.f0.f1 x.f0.f2.f0 A7_3 c7_3 x.f0.f2.f1 x.f0.f2.f2 x.f0.f3 x.f0.f4 x.f1 y.f0.f0 A8_1 c8_1 y.f0.f1 y.f0.f2.f0 A8_3 c8_3 y.f0.f2.f1 y.f0.f2.f2 y.f0.f3 y.f0.f4 y.f1 t W g7_1 l7_1 g7_3 l7_3 g8_1 l8_1 g8_3 l8_3 ht).mono ?_
    rintro e w' ⟨rfl, hd⟩
    exact ⟨rfl, hd⟩⟩
  have H : Kit.eqBy (fun x y => impl_SameShard_1.f k x.f0.f0 x.f0.f1 x.f0.f2.f0 x.f0.f2.f1 x.f0.f2.f2 x.f0.f3 x.f0.f4 x.f1 y.f0.f0 y.f0.f1 y.f0.f2.f0 y.f0.f2.f1 y.f0.f2.f2 y.f0.f3 y.f0.f4 y.f1) l0 l1 = some r := h
  clear hr0 hr1 h
  by_cases hl : l0.length = l1.length
  · have HA := Aside0.mk ((Kit.eqBy_same _ hl).symm.trans H)
    have HL := Aside0.mk hl
    have e1 : ((l0.length : Int) != (l1.length : Int)) = false := by simp [hl]
    have e2 : (l0.length != l1.length) = false := by simp [hl]
    have e3 : (l0.length == l1.length) = true := by simp [hl]
    clear H hl
    go_enter Try.func74, Try.ntmps74
    go_wp2
    go_loopg [7, 8, 9, 17] l0.length (fun gg v7 v8 v9 v17 wr => ∃ i : Int, v17 = .int .i64 i ∧ Aside0 (0 ≤ i ∧ i ≤ (l0.length : Int)) ∧ Aside0 ((l0.length : Int) - i ≤ (gg : Int)) ∧ Aside0 (Below w.heap.size w wr) ∧ Aside0 (Kit.eqAll (fun x y => impl_SameShard_1.f k x.f0.f0 x.f0.f1 x.f0.f2.f0 x.f0.f2.f1 x.f0.f2.f2 x.f0.f3 x.f0.f4 x.f1 y.f0.f0 y.f0.f1 y.f0.f2.f0 y.f0.f2.f1 y.f0.f2.f2 y.f0.f3 y.f0.f4 y.f1) (l0.drop i.toNat) (l1.drop i.toNat) = some r))
    case atStart => exact ⟨0, rfl, ⟨by omega⟩, ⟨by omega⟩, ⟨Below.refl _ _⟩, ⟨HA.out⟩⟩
    case round =>
    clear HA e1 e2 e3
    obtain ⟨i, rfl, HI, HG, HB, HA⟩ := hrel
    have p5 : 0 ≤ i := HI.out.1
    by_cases q5 : i < (l0.length : Int)
    · have c5 : decide (i < (l0.length : Int)) = true := decide_eq_true q5
      have q6 : i < (l1.length : Int) := by have := HL.out; omega
      have p6 := p5
      obtain ⟨ad5, A5_1, c5_1, A5_3, c5_3, e5, hx5_0, hx5_1, hx5_2, hx5_3, hx5_4, hx5_5, hx5_6, hx5_7, hl5_1, hi5_1, hl5_3, hi5_3⟩ := at_T87 HR0.out i p5 q5
      cases e5
      replace hx5_0 := (HB.out.cell (World.block_lt_of_cell? w _ hx5_0)).trans hx5_0
      replace hx5_1 := (HB.out.cell (World.block_lt_of_cell? w _ hx5_1)).trans hx5_1
      replace hx5_2 := (HB.out.cell (World.block_lt_of_cell? w _ hx5_2)).trans hx5_2
      replace hx5_3 := (HB.out.cell (World.block_lt_of_cell? w _ hx5_3)).trans hx5_3
      replace hx5_4 := (HB.out.cell (World.block_lt_of_cell? w _ hx5_4)).trans hx5_4
      replace hx5_5 := (HB.out.cell (World.block_lt_of_cell? w _ hx5_5)).trans hx5_5
      replace hx5_6 := (HB.out.cell (World.block_lt_of_cell? w _ hx5_6)).trans hx5_6
      replace hx5_7 := (HB.out.cell (World.block_lt_of_cell? w _ hx5_7)).trans hx5_7
      have E5 := Aside0.mk (k87_mk _ (rd_T87 l0 i) hl5_1 (Kd.C_below hi5_1 HB.out) hl5_3 (Kd.C_below hi5_3 HB.out))
      clear hl5_1 hi5_1 hl5_3 hi5_3
      obtain ⟨ad6, A6_1, c6_1, A6_3, c6_3, e6, hx6_0, hx6_1, hx6_2, hx6_3, hx6_4, hx6_5, hx6_6, hx6_7, hl6_1, hi6_1, hl6_3, hi6_3⟩ := at_T87 HR1.out i p6 q6
      cases e6
      replace hx6_0 := (HB.out.cell (World.block_lt_of_cell? w _ hx6_0)).trans hx6_0
      replace hx6_1 := (HB.out.cell (World.block_lt_of_cell? w _ hx6_1)).trans hx6_1
      replace hx6_2 := (HB.out.cell (World.block_lt_of_cell? w _ hx6_2)).trans hx6_2
      replace hx6_3 := (HB.out.cell (World.block_lt_of_cell? w _ hx6_3)).trans hx6_3
      replace hx6_4 := (HB.out.cell (World.block_lt_of_cell? w _ hx6_4)).trans hx6_4
      replace hx6_5 := (HB.out.cell (World.block_lt_of_cell? w _ hx6_5)).trans hx6_5
      replace hx6_6 := (HB.out.cell (World.block_lt_of_cell? w _ hx6_6)).trans hx6_6
      replace hx6_7 := (HB.out.cell (World.block_lt_of_cell? w _ hx6_7)).trans hx6_7
      have E6 := Aside0.mk (k87_mk _ (rd_T87 l1 i) hl6_1 (Kd.C_below hi6_1 HB.out) hl6_3 (Kd.C_below hi6_3 HB.out))
      clear hl6_1 hi6_1 hl6_3 hi6_3
      obtain ⟨t, ht, HT⟩ := Kit.eqAll_step (fun x y => impl_SameShard_1.f k x.f0.f0 x.f0.f1 x.f0.f2.f0 x.f0.f2.f1 x.f0.f2.f2 x.f0.f3 x.f0.f4 x.f1 y.f0.f0 y.f0.f1 y.f0.f2.f0 y.f0.f2.f1 y.f0.f2.f2 y.f0.f3 y.f0.f4 y.f1) l0 l1 z87 i p5 q5 q6 HA.out
      have hcall : ∀ W : World, Below wr.heap.size wr W → _ := fun W hW => HP.out W (rd_T87 l0 i) (rd_T87 l1 i) _ _ t (Kit.below_trans HB.out hW) ((k87).K_below hW E5.out) ((k87).K_below hW E6.out) ht
      have HC := Aside0.mk hcall
      have HT' := Aside0.mk HT
      clear hcall HT ht E5 E6 HP HR0 HR1
      replace p5 := eq_true p5
      replace q5 := eq_true q5
      replace q6 := eq_true q6
      clear p6
      have HW0 : Below wr.heap.size wr wr := Below.refl _ _
      cases t with
      | true =>
        rw [if_pos rfl] at HT'
        go_wp2_with (first
          | ((with_reducible refine gate_dst (N := 25) rfl ?_); refine Kit.atAlloc ?_; intro w1 hb hbox; replace hx6_0 := Kit.hx hb hx6_0; replace hx6_1 := Kit.hx hb hx6_1; replace hx6_2 := Kit.hx hb hx6_2; replace hx6_3 := Kit.hx hb hx6_3; replace hx6_4 := Kit.hx hb hx6_4; replace hx6_5 := Kit.hx hb hx6_5; replace hx6_6 := Kit.hx hb hx6_6; replace hx6_7 := Kit.hx hb hx6_7; replace HW0 := Kit.below_trans HW0 hb; obtain ⟨hz5_0, hz5_1, hz5_2, hz5_3, hz5_4, hz5_5, hz5_6, hz5_7, hy5_0, hy5_1, hy5_2, hy5_3, hy5_4, hy5_5, hy5_6, hy5_7⟩ := Kit.c8 hbox; clear hb hbox)
          | ((with_reducible refine gate_dst (N := 27) rfl ?_); refine Kit.atAlloc ?_; intro w2 hb hbox; replace hz5_0 := Kit.hx hb hz5_0; replace hz5_1 := Kit.hx hb hz5_1; replace hz5_2 := Kit.hx hb hz5_2; replace hz5_3 := Kit.hx hb hz5_3; replace hz5_4 := Kit.hx hb hz5_4; replace hz5_5 := Kit.hx hb hz5_5; replace hz5_6 := Kit.hx hb hz5_6; replace hz5_7 := Kit.hx hb hz5_7; replace HW0 := Kit.below_trans HW0 hb; obtain ⟨hz6_0, hz6_1, hz6_2, hz6_3, hz6_4, hz6_5, hz6_6, hz6_7, hy6_0, hy6_1, hy6_2, hy6_3, hy6_4, hy6_5, hy6_6, hy6_7⟩ := Kit.c8 hbox; clear hb hbox)
          | (go_at_call 75; refine (HC.out _ HW0).mono ?_; rintro e w' ⟨rfl, hb'⟩))
        go_roundg (gk - 1)
        case measure => have := HG.out; have := of_eq_true q5; omega
        case rel =>
          have hw : wrap64 (i + 1) = i + 1 := by have := HI.out; have := HM.out; have := of_eq_true q5; unfold wrap64; omega
          refine ⟨wrap64 (i + 1), rfl, ⟨by have := HI.out; have := of_eq_true q5; omega⟩, ⟨by have := HG.out; have := of_eq_true q5; omega⟩, ⟨Kit.below_trans HB.out (Kit.below_trans HW0 hb')⟩, ⟨?_⟩⟩
          rw [hw, show (i + 1).toNat = i.toNat + 1 by have := HI.out; omega]
          exact HT'.out
      | false =>
        have hr : r = false := HT'.out
        go_wp2_with (first
          | ((with_reducible refine gate_dst (N := 25) rfl ?_); refine Kit.atAlloc ?_; intro w1 hb hbox; replace hx6_0 := Kit.hx hb hx6_0; replace hx6_1 := Kit.hx hb hx6_1; replace hx6_2 := Kit.hx hb hx6_2; replace hx6_3 := Kit.hx hb hx6_3; replace hx6_4 := Kit.hx hb hx6_4; replace hx6_5 := Kit.hx hb hx6_5; replace hx6_6 := Kit.hx hb hx6_6; replace hx6_7 := Kit.hx hb hx6_7; replace HW0 := Kit.below_trans HW0 hb; obtain ⟨hz5_0, hz5_1, hz5_2, hz5_3, hz5_4, hz5_5, hz5_6, hz5_7, hy5_0, hy5_1, hy5_2, hy5_3, hy5_4, hy5_5, hy5_6, hy5_7⟩ := Kit.c8 hbox; clear hb hbox)
          | ((with_reducible refine gate_dst (N := 27) rfl ?_); refine Kit.atAlloc ?_; intro w2 hb hbox; replace hz5_0 := Kit.hx hb hz5_0; replace hz5_1 := Kit.hx hb hz5_1; replace hz5_2 := Kit.hx hb hz5_2; replace hz5_3 := Kit.hx hb hz5_3; replace hz5_4 := Kit.hx hb hz5_4; replace hz5_5 := Kit.hx hb hz5_5; replace hz5_6 := Kit.hx hb hz5_6; replace hz5_7 := Kit.hx hb hz5_7; replace HW0 := Kit.below_trans HW0 hb; obtain ⟨hz6_0, hz6_1, hz6_2, hz6_3, hz6_4, hz6_5, hz6_6, hz6_7, hy6_0, hy6_1, hy6_2, hy6_3, hy6_4, hy6_5, hy6_6, hy6_7⟩ := Kit.c8 hbox; clear hb hbox)
          | (go_at_call 75; refine (HC.out _ HW0).mono ?_; rintro e w' ⟨rfl, hb'⟩))
        go_ret
        exact ⟨by first | rfl | exact Kit.ret_bool hr.symm, Kit.below_trans HB.out (Kit.below_trans HW0 hb')⟩
    · have c5 : decide (i < (l0.length : Int)) = false := decide_eq_false q5
      have hr : r = true := Kit.eqAll_end _ l0 l1 i p5 q5 (by have := HL.out; omega) HA.out
      go_wp2
      go_ret
      exact ⟨by first | rfl | exact Kit.ret_bool hr.symm, HB.out⟩
  · have hr : r = false := Kit.eqBy_other _ hl H
    have e1 : ((l0.length : Int) != (l1.length : Int)) = true := by simp only [bne_iff_ne, ne_eq]; omega
    have e2 : (l0.length != l1.length) = true := by simp only [bne_iff_ne, ne_eq]; omega
    have e3 : (l0.length == l1.length) = false := by simp only [beq_eq_false_iff_ne, ne_eq]; omega
    clear H hl
    go_enter Try.func74, Try.ntmps74
    go_wp2
    go_ret
    exact ⟨by first | rfl | exact Kit.ret_bool hr.symm, Below.refl _ _⟩

/-! ### impl_SameShard: function 45 -/
def impl_SameShard.f (k : Nat) (a0_0 : Int) (a0_1 : Int) (l0_2 : List (S87)) (a0_3 : Int) (a1_0 : Int) (a1_1 : Int) (l1_2 : List (S87)) (a1_3 : Int) : Option (Bool) := if a0_0 = a1_0 then (if a0_1 = a1_1 then (if a0_3 = a1_3 then ((impl_Slot.f k l0_2 l1_2 ()).bind fun t237 => (some t237)) else (some false)) else (some false)) else (some false)
theorem impl_SameShard.mono : ∀ a0 a1 a2 a3 a4 a5 a6 a7 k, LeO (impl_SameShard.f k a0 a1 a2 a3 a4 a5 a6 a7) (impl_SameShard.f (k + 1) a0 a1 a2 a3 a4 a5 a6 a7) := by
  intro a0 a1 a2 a3 a4 a5 a6 a7 k
  unfold impl_SameShard.f
  repeat' first
      | (with_reducible exact impl_Slot.mono _ _ _ _)
      | (with_reducible exact LeO.refl _)
      | (with_reducible exact LeO.none _)
      | (with_reducible refine LeO.ite ?_ ?_)
      | (with_reducible refine LeO.bind ?_ (fun _ => ?_))
      | exact impl_Slot.mono _ _ _ _
      | exact LeO.none _
      | refine LeO.ite ?_ ?_
      | refine LeO.bind ?_ (fun _ => ?_)
set_option maxHeartbeats 8000000 in
set_option maxRecDepth 100000 in
theorem impl_SameShard.calls (k : Nat) (a0_0 : Int) (a0_1 : Int) (A0_2 : Option Addr) (c0_2 : Nat) (l0_2 : List (S87)) (a0_3 : Int) (a1_0 : Int) (a1_1 : Int) (A1_2 : Option Addr) (c1_2 : Nat) (l1_2 : List (S87)) (a1_3 : Int) (r : Bool) (w : World) (hr0_2 : Kd.C k87 w A0_2 l0_2.length l0_2) (hc0_2 : l0_2.length ≤ c0_2) (hr1_2 : Kd.C k87 w A1_2 l1_2.length l1_2) (hc1_2 : l1_2.length ≤ c1_2) (h : impl_SameShard.f k a0_0 a0_1 l0_2 a0_3 a1_0 a1_1 l1_2 a1_3 = some r) :
    Calls Try.prog 45 #[.agg #[.int .i64 a0_0, .int .i64 a0_1, .slice A0_2 l0_2.length c0_2, .int .i64 a0_3], .agg #[.int .i64 a1_0, .int .i64 a1_1, .slice A1_2 l1_2.length c1_2, .int .i64 a1_3]] w fun e w' => e = .returned (.bool r) ∧ Below w.heap.size w w' := by
  have hu51 := Try.underlying51
  have HR0_2 := Aside0.mk hr0_2
  have HC0_2 := Aside0.mk hc0_2
  clear hr0_2 hc0_2
  have HR1_2 := Aside0.mk hr1_2
  have HC1_2 := Aside0.mk hc1_2
  clear hr1_2 hc1_2
  have HB := Aside0.mk (Below.refl w.heap.size w)
  have H : (if a0_0 = a1_0 then (if a0_1 = a1_1 then (if a0_3 = a1_3 then ((impl_Slot.f k l0_2 l1_2 ()).bind fun t237 => (some t237)) else (some false)) else (some false)) else (some false)) = some r := h
  clear h
  by_cases c3 : a0_0 = a1_0
  · rw [if_pos c3] at H
    have c3b0 : (a0_0 == a1_0) = true := beq_iff_eq.mpr c3
    have c3b1 : (a0_0 != a1_0) = false := bne_eq_false_iff_eq.mpr c3
    clear c3
    by_cases c4 : a0_1 = a1_1
    · rw [if_pos c4] at H
      have c4b0 : (a0_1 == a1_1) = true := beq_iff_eq.mpr c4
      have c4b1 : (a0_1 != a1_1) = false := bne_eq_false_iff_eq.mpr c4
      clear c4
      by_cases c5 : a0_3 = a1_3
      · rw [if_pos c5] at H
        have c5b0 : (a0_3 == a1_3) = true := beq_iff_eq.mpr c5
        have c5b1 : (a0_3 != a1_3) = false := bne_eq_false_iff_eq.mpr c5
        clear c5
        replace H := Option.bind_eq_some_iff.mp H
        obtain ⟨t237, A60, H⟩ := H
        replace H : (some t237) = some r := H
        have A6 := Aside0.mk A60
        clear A60
        obtain rfl := Option.some.inj H
        go_enter Try.func45, Try.ntmps45
        go_wp2_with (first | ((with_reducible refine gate_dst (N := 2) rfl ?_); refine box_event ?hg (N := 2) ?hd (cs := #[.int .i64 a0_0, .int .i64 a0_1, .slice A0_2 l0_2.length c0_2, .int .i64 a0_3]) (t := 51) ?hr ?_; (case hd => rfl); (case hg => rfl); (case hr => exact Kit.hr); intro gb235 hg w7 hbox hb; have BK235 := Aside0.mk (hbox); have GW235 := Aside0.mk (Kit.gx (w := w) hg); have GE235 := Aside0.mk (Kit.gx (w := w) hg); replace HB := Aside0.mk (below_step Kit.bl hb); clear hb hbox hg) | ((with_reducible refine gate_dst (N := 3) rfl ?_); refine box_event ?hg (N := 3) ?hd (cs := #[.int .i64 a1_0, .int .i64 a1_1, .slice A1_2 l1_2.length c1_2, .int .i64 a1_3]) (t := 51) ?hr ?_; (case hd => rfl); (case hg => rfl); (case hr => exact Kit.hr); intro gb236 hg w8 hbox hb; have BK236 := Aside0.mk (hbox); have GW236 := Aside0.mk (Kit.gx (w := w) hg); have GE236 := Aside0.mk (Kit.gx (w := w) hg); replace HB := Aside0.mk (below_step Kit.bl hb); have NB235_236 := Aside0.mk (Kit.nlt hg BK235.out); have NB236_235 := Aside0.mk (Kit.ngt hg BK235.out); replace BK235 := Aside0.mk (Kit.bb BK235.out hb); clear hb hbox hg; have hnb9 := NB235_236.out; have hnc9 := NB236_235.out; obtain ⟨hcz10_0, hcz10_1, hcz10_2, hcz10_3, hfz10_0, hfz10_1, hfz10_2, hfz10_3⟩ := Kit.c4 BK235.out; obtain ⟨hcz11_0, hcz11_1, hcz11_2, hcz11_3, hfz11_0, hfz11_1, hfz11_2, hfz11_3⟩ := Kit.c4 BK236.out) | (go_at_call 74; (with_reducible refine (impl_Slot.calls k _ _ l0_2 _ _ l1_2 () t237 _ ?side1 ?side2 ?side3 ?side4 A6.out).mono ?_); (case side1 => exact Kit.cx ((Kd.C_below HR0_2.out HB.out))); (case side2 => exact HC0_2.out); (case side3 => exact Kit.cx ((Kd.C_below HR1_2.out HB.out))); (case side4 => exact HC1_2.out); rintro e w12 ⟨rfl, hb⟩; replace BK235 := Aside0.mk (Kit.bb BK235.out hb); replace BK236 := Aside0.mk (Kit.bb BK236.out hb); replace HB := Aside0.mk (below_step Kit.bl hb); (try clear hb); (try clear hb2); (try clear hk); (try clear hi)))
        go_ret
        exact ⟨Kit.er, Kit.bl⟩
      · rw [if_neg c5] at H
        have c5b0 : (a0_3 == a1_3) = false := beq_eq_false_iff_ne.mpr c5
        have c5b1 : (a0_3 != a1_3) = true := bne_iff_ne.mpr c5
        obtain rfl := Option.some.inj H
        go_enter Try.func45, Try.ntmps45
        go_wp2_with (first | ((with_reducible refine gate_dst (N := 2) rfl ?_); refine box_event ?hg (N := 2) ?hd (cs := #[.int .i64 a0_0, .int .i64 a0_1, .slice A0_2 l0_2.length c0_2, .int .i64 a0_3]) (t := 51) ?hr ?_; (case hd => rfl); (case hg => rfl); (case hr => exact Kit.hr); intro gb235 hg w13 hbox hb; have BK235 := Aside0.mk (hbox); have GW235 := Aside0.mk (Kit.gx (w := w) hg); have GE235 := Aside0.mk (Kit.gx (w := w) hg); replace HB := Aside0.mk (below_step Kit.bl hb); clear hb hbox hg) | ((with_reducible refine gate_dst (N := 3) rfl ?_); refine box_event ?hg (N := 3) ?hd (cs := #[.int .i64 a1_0, .int .i64 a1_1, .slice A1_2 l1_2.length c1_2, .int .i64 a1_3]) (t := 51) ?hr ?_; (case hd => rfl); (case hg => rfl); (case hr => exact Kit.hr); intro gb236 hg w14 hbox hb; have BK236 := Aside0.mk (hbox); have GW236 := Aside0.mk (Kit.gx (w := w) hg); have GE236 := Aside0.mk (Kit.gx (w := w) hg); replace HB := Aside0.mk (below_step Kit.bl hb); have NB235_236 := Aside0.mk (Kit.nlt hg BK235.out); have NB236_235 := Aside0.mk (Kit.ngt hg BK235.out); replace BK235 := Aside0.mk (Kit.bb BK235.out hb); clear hb hbox hg; have hnb15 := NB235_236.out; have hnc15 := NB236_235.out; obtain ⟨hcz16_0, hcz16_1, hcz16_2, hcz16_3, hfz16_0, hfz16_1, hfz16_2, hfz16_3⟩ := Kit.c4 BK235.out; obtain ⟨hcz17_0, hcz17_1, hcz17_2, hcz17_3, hfz17_0, hfz17_1, hfz17_2, hfz17_3⟩ := Kit.c4 BK236.out))
        go_ret
        exact ⟨Kit.er, Kit.bl⟩
    · rw [if_neg c4] at H
      have c4b0 : (a0_1 == a1_1) = false := beq_eq_false_iff_ne.mpr c4
      have c4b1 : (a0_1 != a1_1) = true := bne_iff_ne.mpr c4
      obtain rfl := Option.some.inj H
      go_enter Try.func45, Try.ntmps45
      go_wp2_with (first | ((with_reducible refine gate_dst (N := 2) rfl ?_); refine box_event ?hg (N := 2) ?hd (cs := #[.int .i64 a0_0, .int .i64 a0_1, .slice A0_2 l0_2.length c0_2, .int .i64 a0_3]) (t := 51) ?hr ?_; (case hd => rfl); (case hg => rfl); (case hr => exact Kit.hr); intro gb235 hg w18 hbox hb; have BK235 := Aside0.mk (hbox); have GW235 := Aside0.mk (Kit.gx (w := w) hg); have GE235 := Aside0.mk (Kit.gx (w := w) hg); replace HB := Aside0.mk (below_step Kit.bl hb); clear hb hbox hg) | ((with_reducible refine gate_dst (N := 3) rfl ?_); refine box_event ?hg (N := 3) ?hd (cs := #[.int .i64 a1_0, .int .i64 a1_1, .slice A1_2 l1_2.length c1_2, .int .i64 a1_3]) (t := 51) ?hr ?_; (case hd => rfl); (case hg => rfl); (case hr => exact Kit.hr); intro gb236 hg w19 hbox hb; have BK236 := Aside0.mk (hbox); have GW236 := Aside0.mk (Kit.gx (w := w) hg); have GE236 := Aside0.mk (Kit.gx (w := w) hg); replace HB := Aside0.mk (below_step Kit.bl hb); have NB235_236 := Aside0.mk (Kit.nlt hg BK235.out); have NB236_235 := Aside0.mk (Kit.ngt hg BK235.out); replace BK235 := Aside0.mk (Kit.bb BK235.out hb); clear hb hbox hg; have hnb20 := NB235_236.out; have hnc20 := NB236_235.out; obtain ⟨hcz21_0, hcz21_1, hcz21_2, hcz21_3, hfz21_0, hfz21_1, hfz21_2, hfz21_3⟩ := Kit.c4 BK235.out; obtain ⟨hcz22_0, hcz22_1, hcz22_2, hcz22_3, hfz22_0, hfz22_1, hfz22_2, hfz22_3⟩ := Kit.c4 BK236.out))
      go_ret
      exact ⟨Kit.er, Kit.bl⟩
  · rw [if_neg c3] at H
    have c3b0 : (a0_0 == a1_0) = false := beq_eq_false_iff_ne.mpr c3
    have c3b1 : (a0_0 != a1_0) = true := bne_iff_ne.mpr c3
    obtain rfl := Option.some.inj H
    go_enter Try.func45, Try.ntmps45
    go_wp2_with (first | ((with_reducible refine gate_dst (N := 2) rfl ?_); refine box_event ?hg (N := 2) ?hd (cs := #[.int .i64 a0_0, .int .i64 a0_1, .slice A0_2 l0_2.length c0_2, .int .i64 a0_3]) (t := 51) ?hr ?_; (case hd => rfl); (case hg => rfl); (case hr => exact Kit.hr); intro gb235 hg w23 hbox hb; have BK235 := Aside0.mk (hbox); have GW235 := Aside0.mk (Kit.gx (w := w) hg); have GE235 := Aside0.mk (Kit.gx (w := w) hg); replace HB := Aside0.mk (below_step Kit.bl hb); clear hb hbox hg) | ((with_reducible refine gate_dst (N := 3) rfl ?_); refine box_event ?hg (N := 3) ?hd (cs := #[.int .i64 a1_0, .int .i64 a1_1, .slice A1_2 l1_2.length c1_2, .int .i64 a1_3]) (t := 51) ?hr ?_; (case hd => rfl); (case hg => rfl); (case hr => exact Kit.hr); intro gb236 hg w24 hbox hb; have BK236 := Aside0.mk (hbox); have GW236 := Aside0.mk (Kit.gx (w := w) hg); have GE236 := Aside0.mk (Kit.gx (w := w) hg); replace HB := Aside0.mk (below_step Kit.bl hb); have NB235_236 := Aside0.mk (Kit.nlt hg BK235.out); have NB236_235 := Aside0.mk (Kit.ngt hg BK235.out); replace BK235 := Aside0.mk (Kit.bb BK235.out hb); clear hb hbox hg; have hnb25 := NB235_236.out; have hnc25 := NB236_235.out; obtain ⟨hcz26_0, hcz26_1, hcz26_2, hcz26_3, hfz26_0, hfz26_1, hfz26_2, hfz26_3⟩ := Kit.c4 BK235.out; obtain ⟨hcz27_0, hcz27_1, hcz27_2, hcz27_3, hfz27_0, hfz27_1, hfz27_2, hfz27_3⟩ := Kit.c4 BK236.out))
    go_ret
    exact ⟨Kit.er, Kit.bl⟩

end Go.Proofs.Ytlhnhilaeoegoaa.QFnExactSameShard
