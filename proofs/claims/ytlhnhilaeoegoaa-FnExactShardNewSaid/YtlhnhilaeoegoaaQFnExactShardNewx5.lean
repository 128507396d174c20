-- Written by own.py, a program of this session's own, which calls the kit's print. Lean checks it.
import Derived.Test.YtlhnhilaeoegoaaQFnExactShardNewx0
import Derived.Test.YtlhnhilaeoegoaaQFnExactShardNewx1
import Derived.Test.YtlhnhilaeoegoaaQFnExactShardNewx2
import Derived.Test.YtlhnhilaeoegoaaQFnExactShardNewx4
namespace Go.Proofs.Ytlhnhilaeoegoaa.QFnExactShardNew
open Go.RowKit Go.Proofs.YtlhnhilaeoegoaaW.PrintWords Go.Proofs.YtlhnhilaeoegoaaW.PrintLast Go.Proofs.YtlhnhilaeoegoaaW.PrintMore
attribute [local go_sem] Kit.run_store_one max2_int min2_int max_two min_two max_three min_three max_four min_four   -- for this text's walks alone
set_option linter.unusedVariables false
set_option linter.unusedSimpArgs false

/-! ### laws_heldShard: function 39 -/
def laws_heldShard.f (k : Nat) (a0_0 : Int) (a0_1 : Int) (l0_2 : List (S87)) (a0_3 : Int) (a1 : Int) : Option (Int) := (laws_heldSlotS.f k l0_2 a1).bind fun t151 => (if t151 < 0 then (some (-1)) else (some t151))
theorem laws_heldShard.mono : ∀ a0 a1 a2 a3 a4 k, LeO (laws_heldShard.f k a0 a1 a2 a3 a4) (laws_heldShard.f (k + 1) a0 a1 a2 a3 a4) := by
  intro a0 a1 a2 a3 a4 k
  unfold laws_heldShard.f
  repeat' first
      | (with_reducible exact laws_heldSlotS.mono _ _ _)
      | (with_reducible exact LeO.refl _)
      | (with_reducible exact LeO.none _)
      | (with_reducible refine LeO.ite ?_ ?_)
      | (with_reducible refine LeO.bind ?_ (fun _ => ?_))
      | exact laws_heldSlotS.mono _ _ _
      | exact LeO.none _
      | refine LeO.ite ?_ ?_
      | refine LeO.bind ?_ (fun _ => ?_)
set_option maxHeartbeats 8000000 in
set_option maxRecDepth 100000 in
theorem laws_heldShard.calls (k : Nat) (a0_0 : Int) (a0_1 : Int) (A0_2 : Option Addr) (c0_2 : Nat) (l0_2 : List (S87)) (a0_3 : Int) (a1 : Int) (r : Int) (w : World) (hr0_2 : Kd.C k87 w A0_2 l0_2.length l0_2) (hc0_2 : l0_2.length ≤ c0_2) (h : laws_heldShard.f k a0_0 a0_1 l0_2 a0_3 a1 = some r) :
    Calls Try.prog 39 #[.agg #[.int .i64 a0_0, .int .i64 a0_1, .slice A0_2 l0_2.length c0_2, .int .i64 a0_3], .int .i64 a1] w fun e w' => e = .returned (.int .i64 r) ∧ Below w.heap.size w w' := by
  have hu51 := Try.underlying51
  have HR0_2 := Aside0.mk hr0_2
  have HC0_2 := Aside0.mk hc0_2
  clear hr0_2 hc0_2
  have HB := Aside0.mk (Below.refl w.heap.size w)
  have H : ((laws_heldSlotS.f k l0_2 a1).bind fun t151 => (if t151 < 0 then (some (-1)) else (some t151))) = some r := h
  clear h
  replace H := Option.bind_eq_some_iff.mp H
  obtain ⟨t151, A30, H⟩ := H
  replace H : (if t151 < 0 then (some (-1)) else (some t151)) = some r := H
  have A3 := Aside0.mk A30
  clear A30
  by_cases c4 : t151 < 0
  · rw [if_pos c4] at H
    have c4b0 : decide (t151 < 0) = true := decide_eq_true c4
    clear c4
    obtain rfl := Option.some.inj H
    go_enter Try.func39, Try.ntmps39
    go_wp2_with (first | ((with_reducible refine gate_dst (N := 2) rfl ?_); refine box_event ?hg (N := 2) ?hd (cs := #[.int .i64 a0_0, .int .i64 a0_1, .slice A0_2 l0_2.length c0_2, .int .i64 a0_3]) (t := 51) ?hr ?_; (case hd => rfl); (case hg => rfl); (case hr => exact Kit.hr); intro gb150 hg w5 hbox hb; have BK150 := Aside0.mk (hbox); have GW150 := Kit.gX (w := w) hg; have GE150 := GW150; replace HB := Kit.hB hb; clear hb hbox hg; obtain ⟨hcz6_0, hcz6_1, hcz6_2, hcz6_3, hfz6_0, hfz6_1, hfz6_2, hfz6_3⟩ := Kit.c4 BK150.out) | ((with_reducible refine gate_callee (f := 66) rfl ?_); refine goesL_ (some 8) rfl rfl Try.func66 (by kernel_rfl) rfl #[.slice A0_2 l0_2.length c0_2, .int .i64 a1] rfl Kit.am ?_; (with_reducible refine (laws_heldSlotS.calls k _ _ l0_2 a1 t151 _ ?side1 ?side2 A3.out).mono ?_); (case side1 => exact Kit.cr HR0_2.out HB.out); (case side2 => exact HC0_2.out); rintro e w7 ⟨rfl, hb⟩; refine ⟨_, rfl, ?_⟩; replace BK150 := Kit.bB BK150 hb; replace HB := Kit.hB hb; (try clear hb); (try clear hb2); (try clear hk); (try clear hi)))
    go_ret
    exact ⟨Kit.er, Kit.bl⟩
  · rw [if_neg c4] at H
    have c4b0 : decide (t151 < 0) = false := decide_eq_false c4
    clear c4
    obtain rfl := Option.some.inj H
    go_enter Try.func39, Try.ntmps39
    go_wp2_with (first | ((with_reducible refine gate_dst (N := 2) rfl ?_); refine box_event ?hg (N := 2) ?hd (cs := #[.int .i64 a0_0, .int .i64 a0_1, .slice A0_2 l0_2.length c0_2, .int .i64 a0_3]) (t := 51) ?hr ?_; (case hd => rfl); (case hg => rfl); (case hr => exact Kit.hr); intro gb150 hg w8 hbox hb; have BK150 := Aside0.mk (hbox); have GW150 := Kit.gX (w := w) hg; have GE150 := GW150; replace HB := Kit.hB hb; clear hb hbox hg; obtain ⟨hcz9_0, hcz9_1, hcz9_2, hcz9_3, hfz9_0, hfz9_1, hfz9_2, hfz9_3⟩ := Kit.c4 BK150.out) | ((with_reducible refine gate_callee (f := 66) rfl ?_); refine goesL_ (some 8) rfl rfl Try.func66 (by kernel_rfl) rfl #[.slice A0_2 l0_2.length c0_2, .int .i64 a1] rfl Kit.am ?_; (with_reducible refine (laws_heldSlotS.calls k _ _ l0_2 a1 t151 _ ?side1 ?side2 A3.out).mono ?_); (case side1 => exact Kit.cr HR0_2.out HB.out); (case side2 => exact HC0_2.out); rintro e w10 ⟨rfl, hb⟩; refine ⟨_, rfl, ?_⟩; replace BK150 := Kit.bB BK150 hb; replace HB := Kit.hB hb; (try clear hb); (try clear hb2); (try clear hk); (try clear hi)))
    go_ret
    exact ⟨Kit.er, Kit.bl⟩

/-! ### laws_FnExactShardNew: function 10 -/
def laws_FnExactShardNew.f (k : Nat) (a0 : Int) (a1 : Int) : Option (Bool) := (spec_ShardNew.f a0 a1).bind fun bt152 => ((impl_ShardNew.f a0 a1).bind fun bt159 => ((laws_eqShard.f k bt159.1 bt159.2.1 bt159.2.2.1 bt159.2.2.2 bt152.1 bt152.2.1 bt152.2.2.1 bt152.2.2.2).bind fun t166 => (if t166 = true then ((laws_markShard.f bt159.1 bt159.2.1 bt159.2.2.1 bt159.2.2.2 1).bind fun t167 => ((laws_heldShard.f k bt159.1 bt159.2.1 bt159.2.2.1 bt159.2.2.2 1).bind fun t168 => (if t168 < 0 then (some false) else (if t168 = t167 then ((impl_ShardNew.f a0 a1).bind fun bt169 => ((laws_eqShard.f k bt169.1 bt169.2.1 bt169.2.2.1 bt169.2.2.2 bt152.1 bt152.2.1 bt152.2.2.1 bt152.2.2.2).bind fun t176 => (if t176 = true then ((laws_heldShard.f k bt159.1 bt159.2.1 bt159.2.2.1 bt159.2.2.2 1).bind fun t177 => (if t177 < 0 then (some false) else (if t177 = t167 then (some true) else (some false)))) else (some false)))) else (some false))))) else (some false))))
theorem laws_FnExactShardNew.mono : ∀ a0 a1 k, LeO (laws_FnExactShardNew.f k a0 a1) (laws_FnExactShardNew.f (k + 1) a0 a1) := by
  intro a0 a1 k
  unfold laws_FnExactShardNew.f
  repeat' first
      | (with_reducible exact laws_eqShard.mono _ _ _ _ _ _ _ _ _)
      | (with_reducible exact laws_heldShard.mono _ _ _ _ _ _)
      | (with_reducible exact LeO.refl _)
      | (with_reducible exact LeO.none _)
      | (with_reducible refine LeO.ite ?_ ?_)
      | (with_reducible refine LeO.bind ?_ (fun _ => ?_))
      | exact laws_eqShard.mono _ _ _ _ _ _ _ _ _
      | exact laws_heldShard.mono _ _ _ _ _ _
      | exact LeO.none _
      | refine LeO.ite ?_ ?_
      | refine LeO.bind ?_ (fun _ => ?_)
set_option maxHeartbeats 8000000 in
set_option maxRecDepth 100000 in
theorem laws_FnExactShardNew.calls (k : Nat) (a0 : Int) (a1 : Int) (r : Bool) (w : World) (h : laws_FnExactShardNew.f k a0 a1 = some r) :
    Calls Try.prog 10 #[.int .i64 a0, .int .i64 a1] w fun e w' => e = .returned (.bool r) ∧ Below w.heap.size w w' := by
  have hu51 := Try.underlying51
  have HB := Aside0.mk (Below.refl w.heap.size w)
  have H : ((spec_ShardNew.f a0 a1).bind fun bt152 => ((impl_ShardNew.f a0 a1).bind fun bt159 => ((laws_eqShard.f k bt159.1 bt159.2.1 bt159.2.2.1 bt159.2.2.2 bt152.1 bt152.2.1 bt152.2.2.1 bt152.2.2.2).bind fun t166 => (if t166 = true then ((laws_markShard.f bt159.1 bt159.2.1 bt159.2.2.1 bt159.2.2.2 1).bind fun t167 => ((laws_heldShard.f k bt159.1 bt159.2.1 bt159.2.2.1 bt159.2.2.2 1).bind fun t168 => (if t168 < 0 then (some false) else (if t168 = t167 then ((impl_ShardNew.f a0 a1).bind fun bt169 => ((laws_eqShard.f k bt169.1 bt169.2.1 bt169.2.2.1 bt169.2.2.2 bt152.1 bt152.2.1 bt152.2.2.1 bt152.2.2.2).bind fun t176 => (if t176 = true then ((laws_heldShard.f k bt159.1 bt159.2.1 bt159.2.2.1 bt159.2.2.2 1).bind fun t177 => (if t177 < 0 then (some false) else (if t177 = t167 then (some true) else (some false)))) else (some false)))) else (some false))))) else (some false))))) = some r := h
  clear h
  replace H := Option.bind_eq_some_iff.mp H
  obtain ⟨⟨t152, t153, t154, t157⟩, A30, H⟩ := H
  replace H : ((impl_ShardNew.f a0 a1).bind fun bt159 => ((laws_eqShard.f k bt159.1 bt159.2.1 bt159.2.2.1 bt159.2.2.2 t152 t153 t154 t157).bind fun t166 => (if t166 = true then ((laws_markShard.f bt159.1 bt159.2.1 bt159.2.2.1 bt159.2.2.2 1).bind fun t167 => ((laws_heldShard.f k bt159.1 bt159.2.1 bt159.2.2.1 bt159.2.2.2 1).bind fun t168 => (if t168 < 0 then (some false) else (if t168 = t167 then ((impl_ShardNew.f a0 a1).bind fun bt169 => ((laws_eqShard.f k bt169.1 bt169.2.1 bt169.2.2.1 bt169.2.2.2 t152 t153 t154 t157).bind fun t176 => (if t176 = true then ((laws_heldShard.f k bt159.1 bt159.2.1 bt159.2.2.1 bt159.2.2.2 1).bind fun t177 => (if t177 < 0 then (some false) else (if t177 = t167 then (some true) else (some false)))) else (some false)))) else (some false))))) else (some false)))) = some r := H
  have A3 := Aside0.mk A30
  clear A30
  replace H := Option.bind_eq_some_iff.mp H
  obtain ⟨⟨t159, t160, t161, t164⟩, A40, H⟩ := H
  replace H : ((laws_eqShard.f k t159 t160 t161 t164 t152 t153 t154 t157).bind fun t166 => (if t166 = true then ((laws_markShard.f t159 t160 t161 t164 1).bind fun t167 => ((laws_heldShard.f k t159 t160 t161 t164 1).bind fun t168 => (if t168 < 0 then (some false) else (if t168 = t167 then ((impl_ShardNew.f a0 a1).bind fun bt169 => ((laws_eqShard.f k bt169.1 bt169.2.1 bt169.2.2.1 bt169.2.2.2 t152 t153 t154 t157).bind fun t176 => (if t176 = true then ((laws_heldShard.f k t159 t160 t161 t164 1).bind fun t177 => (if t177 < 0 then (some false) else (if t177 = t167 then (some true) else (some false)))) else (some false)))) else (some false))))) else (some false))) = some r := H
  have A4 := Aside0.mk A40
  clear A40
  replace H := Option.bind_eq_some_iff.mp H
  obtain ⟨t166, A50, H⟩ := H
  replace H : (if t166 = true then ((laws_markShard.f t159 t160 t161 t164 1).bind fun t167 => ((laws_heldShard.f k t159 t160 t161 t164 1).bind fun t168 => (if t168 < 0 then (some false) else (if t168 = t167 then ((impl_ShardNew.f a0 a1).bind fun bt169 => ((laws_eqShard.f k bt169.1 bt169.2.1 bt169.2.2.1 bt169.2.2.2 t152 t153 t154 t157).bind fun t176 => (if t176 = true then ((laws_heldShard.f k t159 t160 t161 t164 1).bind fun t177 => (if t177 < 0 then (some false) else (if t177 = t167 then (some true) else (some false)))) else (some false)))) else (some false))))) else (some false)) = some r := H
  have A5 := Aside0.mk A50
  clear A50
  by_cases c6 : t166 = true
  subst c6
  have H1 : ((laws_markShard.f t159 t160 t161 t164 1).bind fun t167 => ((laws_heldShard.f k t159 t160 t161 t164 1).bind fun t168 => (if t168 < 0 then (some false) else (if t168 = t167 then ((impl_ShardNew.f a0 a1).bind fun bt169 => ((laws_eqShard.f k bt169.1 bt169.2.1 bt169.2.2.1 bt169.2.2.2 t152 t153 t154 t157).bind fun t176 => (if t176 = true then ((laws_heldShard.f k t159 t160 t161 t164 1).bind fun t177 => (if t177 < 0 then (some false) else (if t177 = t167 then (some true) else (some false)))) else (some false)))) else (some false))))) = some r := by rw [if_pos rfl] at H; exact H
  clear H
  have H := H1
  clear H1
  replace H := Option.bind_eq_some_iff.mp H
  obtain ⟨t167, A70, H⟩ := H
  replace H : ((laws_heldShard.f k t159 t160 t161 t164 1).bind fun t168 => (if t168 < 0 then (some false) else (if t168 = t167 then ((impl_ShardNew.f a0 a1).bind fun bt169 => ((laws_eqShard.f k bt169.1 bt169.2.1 bt169.2.2.1 bt169.2.2.2 t152 t153 t154 t157).bind fun t176 => (if t176 = true then ((laws_heldShard.f k t159 t160 t161 t164 1).bind fun t177 => (if t177 < 0 then (some false) else (if t177 = t167 then (some true) else (some false)))) else (some false)))) else (some false)))) = some r := H
  have A7 := Aside0.mk A70
  clear A70
  replace H := Option.bind_eq_some_iff.mp H
  obtain ⟨t168, A80, H⟩ := H
  replace H : (if t168 < 0 then (some false) else (if t168 = t167 then ((impl_ShardNew.f a0 a1).bind fun bt169 => ((laws_eqShard.f k bt169.1 bt169.2.1 bt169.2.2.1 bt169.2.2.2 t152 t153 t154 t157).bind fun t176 => (if t176 = true then ((laws_heldShard.f k t159 t160 t161 t164 1).bind fun t177 => (if t177 < 0 then (some false) else (if t177 = t167 then (some true) else (some false)))) else (some false)))) else (some false))) = some r := H
  have A8 := Aside0.mk A80
  clear A80
  by_cases c9 : t168 < 0
  rw [if_pos c9] at H
  have c9b0 : decide (t168 < 0) = true := decide_eq_true c9
  clear c9
  obtain rfl := Option.some.inj H
  rotate_left
  rw [if_neg c9] at H
  have c9b0 : decide (t168 < 0) = false := decide_eq_false c9
  clear c9
  by_cases c25 : t168 = t167
  rw [if_pos c25] at H
  have c25b0 : (t168 == t167) = true := beq_iff_eq.mpr c25
  have c25b1 : (t168 != t167) = false := bne_eq_false_iff_eq.mpr c25
  clear c25
  replace H := Option.bind_eq_some_iff.mp H
  obtain ⟨⟨t169, t170, t171, t174⟩, A260, H⟩ := H
  replace H : ((laws_eqShard.f k t169 t170 t171 t174 t152 t153 t154 t157).bind fun t176 => (if t176 = true then ((laws_heldShard.f k t159 t160 t161 t164 1).bind fun t177 => (if t177 < 0 then (some false) else (if t177 = t167 then (some true) else (some false)))) else (some false))) = some r := H
  have A26 := Aside0.mk A260
  clear A260
  replace H := Option.bind_eq_some_iff.mp H
  obtain ⟨t176, A270, H⟩ := H
  replace H : (if t176 = true then ((laws_heldShard.f k t159 t160 t161 t164 1).bind fun t177 => (if t177 < 0 then (some false) else (if t177 = t167 then (some true) else (some false)))) else (some false)) = some r := H
  have A27 := Aside0.mk A270
  clear A270
  by_cases c28 : t176 = true
  subst c28
  have H1 : ((laws_heldShard.f k t159 t160 t161 t164 1).bind fun t177 => (if t177 < 0 then (some false) else (if t177 = t167 then (some true) else (some false)))) = some r := by rw [if_pos rfl] at H; exact H
  clear H
  have H := H1
  clear H1
  replace H := Option.bind_eq_some_iff.mp H
  obtain ⟨t177, A290, H⟩ := H
  replace H : (if t177 < 0 then (some false) else (if t177 = t167 then (some true) else (some false))) = some r := H
  have A29 := Aside0.mk A290
  clear A290
  by_cases c30 : t177 < 0
  rw [if_pos c30] at H
  have c30b0 : decide (t177 < 0) = true := decide_eq_true c30
  clear c30
  obtain rfl := Option.some.inj H
  rotate_left
  rw [if_neg c30] at H
  have c30b0 : decide (t177 < 0) = false := decide_eq_false c30
  clear c30
  by_cases c56 : t177 = t167
  rw [if_pos c56] at H
  have c56b0 : (t177 == t167) = true := beq_iff_eq.mpr c56
  have c56b1 : (t177 != t167) = false := bne_eq_false_iff_eq.mpr c56
  clear c56
  obtain rfl := Option.some.inj H
  rotate_left
  rw [if_neg c56] at H
  have c56b0 : (t177 == t167) = false := beq_eq_false_iff_ne.mpr c56
  have c56b1 : (t177 != t167) = true := bne_iff_ne.mpr c56
  obtain rfl := Option.some.inj H
  rotate_left
  replace c28 := Bool.eq_false_iff.mpr c28
  subst c28
  have H1 : (some false) = some r := by rw [if_neg (show ¬ (false = true) by decide)] at H; exact H
  clear H
  have H := H1
  clear H1
  obtain rfl := Option.some.inj H
  rotate_left
  rw [if_neg c25] at H
  have c25b0 : (t168 == t167) = false := beq_eq_false_iff_ne.mpr c25
  have c25b1 : (t168 != t167) = true := bne_iff_ne.mpr c25
  obtain rfl := Option.some.inj H
  rotate_left
  replace c6 := Bool.eq_false_iff.mpr c6
  subst c6
  have H1 : (some false) = some r := by rw [if_neg (show ¬ (false = true) by decide)] at H; exact H
  clear H
  have H := H1
  clear H1
  obtain rfl := Option.some.inj H
  rotate_left
  all_goals
    go_enter Try.func10, Try.ntmps10
    go_wp2_with (first | ((with_reducible refine gate_callee (f := 35) rfl ?_); refine goesL_ (some 12) rfl rfl Try.func35 (by kernel_rfl) rfl #[.int .i64 a0, .int .i64 a1] rfl Kit.am ?_; (with_reducible refine (spec_ShardNew.calls a0 a1 t152 t153 t154 t157 _ A3.out).mono ?_); rintro e w82 ⟨v155, rfl, ho0, hb⟩; refine ⟨_, rfl, ?_⟩; have one_v155 : (v155 : Value).oneCell' = true := Kit.ov0; have HO156 := Aside0.mk (Kd.S_lower ho0 Kit.bz); replace HB := Kit.hB hb; (try clear hb); (try clear hb2); (try clear hk); (try clear hi); (try clear ho0)) | ((with_reducible refine gate_dst (N := 5) rfl ?_); refine box_event ?hg (N := 5) ?hd (cs := #[.int .i64 0, .int .i64 0, .slice none 0 0, .int .i64 0]) (t := 51) ?hr ?_; (case hd => rfl); (case hg => rfl); (case hr => exact Kit.hr); intro gb158 hg w83 hbox hb; replace HO156 := Aside0.mk (Kd.S_below (Kit.sx HO156.out) hb); have BK158 := Aside0.mk (hbox); have GW158 := Kit.gX (w := w) hg; have GE158 := GW158; replace HB := Kit.hB hb; clear hb hbox hg; obtain ⟨hcz84_0, hcz84_1, hcz84_2, hcz84_3, hfz84_0, hfz84_1, hfz84_2, hfz84_3⟩ := Kit.c4 BK158.out; obtain ⟨Ao85, co85, eo85⟩ := Kd.S_slice HO156.out; subst eo85) | ((with_reducible refine gate_callee (f := 36) rfl ?_); refine goesL_ (some 15) rfl rfl Try.func36 (by kernel_rfl) rfl #[.int .i64 a0, .int .i64 a1] rfl Kit.am ?_; (with_reducible refine (impl_ShardNew.calls a0 a1 t159 t160 t161 t164 _ A4.out).mono ?_); rintro e w86 ⟨v162, rfl, ho0, hb⟩; refine ⟨_, rfl, ?_⟩; have one_v162 : (v162 : Value).oneCell' = true := Kit.ov0; have n0_ := Aside0.mk (Kd.S_elder' (Kit.sf HO156.out BK158.out) (Kd.S_base ho0) hb); have n1_ := Aside0.mk (Kd.S_lower (Kd.S_new' ho0 (Kd.S_lt (Kit.sf HO156.out BK158.out))) Kit.bz); have n2_ := Aside0.mk (blk_below (g := gb158) (o := .cells #[.int .i64 t152, .int .i64 t153, .slice Ao85 t154.length co85, .int .i64 t157] 51 (0, 0)) (by (with_reducible repeat (first | refine blk_drewN ?_ _ | refine blk_drew ?_ | refine blk_alloc ?_ _)); refine blk_put (cs := #[.int .i64 t152, .int .i64 t153, .slice Ao85 t154.length co85, .int .i64 0]) ?_ 3 _ rfl; (with_reducible repeat (first | refine blk_drewN ?_ _ | refine blk_drew ?_ | refine blk_alloc ?_ _)); refine blk_put (cs := #[.int .i64 t152, .int .i64 t153, .slice none 0 0, .int .i64 0]) ?_ 2 _ rfl; (with_reducible repeat (first | refine blk_drewN ?_ _ | refine blk_drew ?_ | refine blk_alloc ?_ _)); refine blk_put (cs := #[.int .i64 t152, .int .i64 0, .slice none 0 0, .int .i64 0]) ?_ 1 _ rfl; (with_reducible repeat (first | refine blk_drewN ?_ _ | refine blk_drew ?_ | refine blk_alloc ?_ _)); refine blk_put (cs := #[.int .i64 0, .int .i64 0, .slice none 0 0, .int .i64 0]) ?_ 0 _ rfl; (with_reducible repeat (first | refine blk_drewN ?_ _ | refine blk_drew ?_ | refine blk_alloc ?_ _)); exact BK158.out) hb); have n3_ := Kit.hB hb; clear HO156; clear BK158; clear HB; have HO156 := n0_; have HO163 := n1_; have BK158 := n2_; have HB := n3_; clear n0_ n1_ n2_ n3_; (try clear hb); (try clear hb2); (try clear hk); (try clear hi); (try clear ho0)) | ((with_reducible refine gate_dst (N := 6) rfl ?_); refine box_event ?hg (N := 6) ?hd (cs := #[.int .i64 0, .int .i64 0, .slice none 0 0, .int .i64 0]) (t := 51) ?hr ?_; (case hd => rfl); (case hg => rfl); (case hr => exact Kit.hr); intro gb165 hg w87 hbox hb; replace HO156 := Aside0.mk (Kd.S_below (Kit.sx HO156.out) hb); replace HO163 := Aside0.mk (Kd.S_below (Kit.sx HO163.out) hb); have BK165 := Aside0.mk (hbox); have GW165 := Kit.gX (w := w) hg; have GE165 := GW165; replace HB := Kit.hB hb; have NB158_165 := Aside0.mk (Kit.nlt hg BK158.out); have NB165_158 := Aside0.mk (Kit.ngt hg BK158.out); replace BK158 := Kit.bB BK158 hb; clear hb hbox hg; have hnb88 := NB165_158.out; have hnc88 := NB158_165.out; obtain ⟨hcz89_0, hcz89_1, hcz89_2, hcz89_3, hfz89_0, hfz89_1, hfz89_2, hfz89_3⟩ := Kit.c4 BK165.out; obtain ⟨Ao90, co90, eo90⟩ := Kd.S_slice HO163.out; subst eo90; obtain ⟨hcz91_0, hcz91_1, hcz91_2, hcz91_3, hfz91_0, hfz91_1, hfz91_2, hfz91_3⟩ := Kit.c4 BK158.out) | ((with_reducible refine gate_callee (f := 37) rfl ?_); refine goesL_ (some 18) rfl rfl Try.func37 (by kernel_rfl) rfl #[.agg #[.int .i64 t159, .int .i64 t160, .slice Ao90 t161.length co90, .int .i64 t164], .agg #[.int .i64 t152, .int .i64 t153, .slice Ao85 t154.length co85, .int .i64 t157]] rfl Kit.am ?_; (with_reducible refine (laws_eqShard.calls k t159 t160 _ _ t161 t164 t152 t153 _ _ t154 t157 _ _ ?side1 ?side2 ?side3 ?side4 A5.out).mono ?_); (case side1 => refine (Kd.S_reads' (e := 87) (base := w.heap.size) (ok := fun k_ => (True ∧ some k_ ≠ (.slice Ao85 t154.length co85 : Value).ownBlock)) (n := t161.length) (c := co90) ?_).2.2; exact (Kit.sf HO163.out BK165.out)); (case side2 => exact (Kd.S_reads' HO163.out).2.1); (case side3 => refine (Kd.S_reads' (e := 87) (base := w.heap.size) (ok := fun k_ => (True ∧ some k_ ≠ (.slice Ao90 t161.length co90 : Value).ownBlock)) (n := t154.length) (c := co85) ?_).2.2; exact (Kit.sf HO156.out BK165.out)); (case side4 => exact (Kd.S_reads' HO156.out).2.1); rintro e w92 ⟨rfl, hb⟩; refine ⟨_, rfl, ?_⟩; have n0_ := Aside0.mk (Kd.S_below (Kit.sf HO156.out BK165.out) hb); have n1_ := Aside0.mk (Kd.S_below (Kit.sf HO163.out BK165.out) hb); have n2_ := Aside0.mk (Kit.bf BK158.out hb); have n3_ := Aside0.mk (blk_below (g := gb165) (o := .cells #[.int .i64 t159, .int .i64 t160, .slice Ao90 t161.length co90, .int .i64 t164] 51 (0, 0)) (by (with_reducible repeat (first | refine blk_drewN ?_ _ | refine blk_drew ?_ | refine blk_alloc ?_ _)); refine blk_put (cs := #[.int .i64 t159, .int .i64 t160, .slice Ao90 t161.length co90, .int .i64 0]) ?_ 3 _ rfl; (with_reducible repeat (first | refine blk_drewN ?_ _ | refine blk_drew ?_ | refine blk_alloc ?_ _)); refine blk_put (cs := #[.int .i64 t159, .int .i64 t160, .slice none 0 0, .int .i64 0]) ?_ 2 _ rfl; (with_reducible repeat (first | refine blk_drewN ?_ _ | refine blk_drew ?_ | refine blk_alloc ?_ _)); refine blk_put (cs := #[.int .i64 t159, .int .i64 0, .slice none 0 0, .int .i64 0]) ?_ 1 _ rfl; (with_reducible repeat (first | refine blk_drewN ?_ _ | refine blk_drew ?_ | refine blk_alloc ?_ _)); refine blk_put (cs := #[.int .i64 0, .int .i64 0, .slice none 0 0, .int .i64 0]) ?_ 0 _ rfl; (with_reducible repeat (first | refine blk_drewN ?_ _ | refine blk_drew ?_ | refine blk_alloc ?_ _)); exact BK165.out) hb); have n4_ := Kit.hB hb; clear HO156; clear HO163; clear BK158; clear BK165; clear HB; have HO156 := n0_; have HO163 := n1_; have BK158 := n2_; have BK165 := n3_; have HB := n4_; clear n0_ n1_ n2_ n3_ n4_; (try clear hb); (try clear hb2); (try clear hk); (try clear hi); obtain ⟨hcz93_0, hcz93_1, hcz93_2, hcz93_3, hfz93_0, hfz93_1, hfz93_2, hfz93_3⟩ := Kit.c4 BK165.out) | ((with_reducible refine gate_callee (f := 38) rfl ?_); refine goesL_ (some 22) rfl rfl Try.func38 (by kernel_rfl) rfl #[.agg #[.int .i64 t159, .int .i64 t160, .slice Ao90 t161.length co90, .int .i64 t164], .int .i64 1] rfl Kit.am ?_; (with_reducible refine (laws_markShard.calls t159 t160 _ _ t161 t164 1 t167 _ ?side1 ?side2 A7.out).mono ?_); (case side1 => exact Kit.cx ((Kd.S_reads' HO163.out).2.2)); (case side2 => exact (Kd.S_reads' HO163.out).2.1); rintro e w94 ⟨rfl, hb⟩; refine ⟨_, rfl, ?_⟩; replace HO156 := Aside0.mk (Kd.S_below (Kit.sx HO156.out) hb); replace HO163 := Aside0.mk (Kd.S_below (Kit.sx HO163.out) hb); replace BK158 := Kit.bB BK158 hb; replace BK165 := Kit.bB BK165 hb; replace HB := Kit.hB hb; (try clear hb); (try clear hb2); (try clear hk); (try clear hi); obtain ⟨hcz95_0, hcz95_1, hcz95_2, hcz95_3, hfz95_0, hfz95_1, hfz95_2, hfz95_3⟩ := Kit.c4 BK165.out) | ((with_reducible refine gate_callee (f := 39) rfl ?_); refine goesL_ (some 25) rfl rfl Try.func39 (by kernel_rfl) rfl #[.agg #[.int .i64 t159, .int .i64 t160, .slice Ao90 t161.length co90, .int .i64 t164], .int .i64 1] rfl Kit.am ?_; (with_reducible refine (laws_heldShard.calls k t159 t160 _ _ t161 t164 1 t168 _ ?side1 ?side2 A8.out).mono ?_); (case side1 => exact Kit.cx ((Kd.S_reads' HO163.out).2.2)); (case side2 => exact (Kd.S_reads' HO163.out).2.1); rintro e w96 ⟨rfl, hb⟩; refine ⟨_, rfl, ?_⟩; replace HO156 := Aside0.mk (Kd.S_below (Kit.sx HO156.out) hb); replace HO163 := Aside0.mk (Kd.S_below (Kit.sx HO163.out) hb); replace BK158 := Kit.bB BK158 hb; replace BK165 := Kit.bB BK165 hb; replace HB := Kit.hB hb; (try clear hb); (try clear hb2); (try clear hk); (try clear hi)) | ((with_reducible refine gate_callee (f := 36) rfl ?_); refine goesL_ (some 33) rfl rfl Try.func36 (by kernel_rfl) rfl #[.int .i64 a0, .int .i64 a1] rfl Kit.am ?_; (with_reducible refine (impl_ShardNew.calls a0 a1 t169 t170 t171 t174 _ A26.out).mono ?_); rintro e w97 ⟨v172, rfl, ho0, hb⟩; refine ⟨_, rfl, ?_⟩; have one_v172 : (v172 : Value).oneCell' = true := Kit.ov0; have HO173 := Aside0.mk (Kd.S_lower (Kd.S_new' (Kd.S_new' ho0 (Kd.S_lt (Kit.sx HO156.out))) (Kd.S_lt (Kit.sx HO163.out))) Kit.bz); replace HO156 := Aside0.mk (Kd.S_elder' (Kit.sx HO156.out) (Kd.S_base ho0) hb); replace HO163 := Aside0.mk (Kd.S_elder' (Kit.sx HO163.out) (Kd.S_base ho0) hb); replace BK158 := Kit.bB BK158 hb; replace BK165 := Kit.bB BK165 hb; replace HB := Kit.hB hb; (try clear hb); (try clear hb2); (try clear hk); (try clear hi); (try clear ho0)) | ((with_reducible refine gate_dst (N := 9) rfl ?_); refine box_event ?hg (N := 9) ?hd (cs := #[.int .i64 0, .int .i64 0, .slice none 0 0, .int .i64 0]) (t := 51) ?hr ?_; (case hd => rfl); (case hg => rfl); (case hr => exact Kit.hr); intro gb175 hg w98 hbox hb; replace HO156 := Aside0.mk (Kd.S_below (Kit.sx HO156.out) hb); replace HO163 := Aside0.mk (Kd.S_below (Kit.sx HO163.out) hb); replace HO173 := Aside0.mk (Kd.S_below (Kit.sx HO173.out) hb); have BK175 := Aside0.mk (hbox); have GW175 := Kit.gX (w := w) hg; have GE175 := GW175; replace HB := Kit.hB hb; have NB158_175 := Aside0.mk (Kit.nlt hg BK158.out); have NB175_158 := Aside0.mk (Kit.ngt hg BK158.out); replace BK158 := Kit.bB BK158 hb; have NB165_175 := Aside0.mk (Kit.nlt hg BK165.out); have NB175_165 := Aside0.mk (Kit.ngt hg BK165.out); replace BK165 := Kit.bB BK165 hb; clear hb hbox hg; have hnb99 := NB175_158.out; have hnc99 := NB158_175.out; have hnb100 := NB175_165.out; have hnc100 := NB165_175.out; obtain ⟨hcz101_0, hcz101_1, hcz101_2, hcz101_3, hfz101_0, hfz101_1, hfz101_2, hfz101_3⟩ := Kit.c4 BK175.out; obtain ⟨Ao102, co102, eo102⟩ := Kd.S_slice HO173.out; subst eo102; obtain ⟨hcz103_0, hcz103_1, hcz103_2, hcz103_3, hfz103_0, hfz103_1, hfz103_2, hfz103_3⟩ := Kit.c4 BK158.out) | ((with_reducible refine gate_callee (f := 37) rfl ?_); refine goesL_ (some 36) rfl rfl Try.func37 (by kernel_rfl) rfl #[.agg #[.int .i64 t169, .int .i64 t170, .slice Ao102 t171.length co102, .int .i64 t174], .agg #[.int .i64 t152, .int .i64 t153, .slice Ao85 t154.length co85, .int .i64 t157]] rfl Kit.am ?_; (with_reducible refine (laws_eqShard.calls k t169 t170 _ _ t171 t174 t152 t153 _ _ t154 t157 _ _ ?side1 ?side2 ?side3 ?side4 A27.out).mono ?_); (case side1 => refine (Kd.S_reads' (e := 87) (base := w.heap.size) (ok := fun k_ => ((True ∧ some k_ ≠ (.slice Ao85 t154.length co85 : Value).ownBlock) ∧ some k_ ≠ (.slice Ao90 t161.length co90 : Value).ownBlock)) (n := t171.length) (c := co102) ?_).2.2; exact (Kit.sf HO173.out BK175.out)); (case side2 => exact (Kd.S_reads' HO173.out).2.1); (case side3 => refine (Kd.S_reads' (e := 87) (base := w.heap.size) (ok := fun k_ => ((True ∧ some k_ ≠ (.slice Ao90 t161.length co90 : Value).ownBlock) ∧ some k_ ≠ (.slice Ao102 t171.length co102 : Value).ownBlock)) (n := t154.length) (c := co85) ?_).2.2; exact (Kit.sf HO156.out BK175.out)); (case side4 => exact (Kd.S_reads' HO156.out).2.1); rintro e w104 ⟨rfl, hb⟩; refine ⟨_, rfl, ?_⟩; have n0_ := Aside0.mk (Kd.S_below (Kit.sf HO156.out BK175.out) hb); have n1_ := Aside0.mk (Kd.S_below (Kit.sf HO163.out BK175.out) hb); have n2_ := Aside0.mk (Kd.S_below (Kit.sf HO173.out BK175.out) hb); have n3_ := Aside0.mk (Kit.bf BK158.out hb); have n4_ := Aside0.mk (Kit.bf BK165.out hb); have n5_ := Aside0.mk (blk_below (g := gb175) (o := .cells #[.int .i64 t169, .int .i64 t170, .slice Ao102 t171.length co102, .int .i64 t174] 51 (0, 0)) (by (with_reducible repeat (first | refine blk_drewN ?_ _ | refine blk_drew ?_ | refine blk_alloc ?_ _)); refine blk_put (cs := #[.int .i64 t169, .int .i64 t170, .slice Ao102 t171.length co102, .int .i64 0]) ?_ 3 _ rfl; (with_reducible repeat (first | refine blk_drewN ?_ _ | refine blk_drew ?_ | refine blk_alloc ?_ _)); refine blk_put (cs := #[.int .i64 t169, .int .i64 t170, .slice none 0 0, .int .i64 0]) ?_ 2 _ rfl; (with_reducible repeat (first | refine blk_drewN ?_ _ | refine blk_drew ?_ | refine blk_alloc ?_ _)); refine blk_put (cs := #[.int .i64 t169, .int .i64 0, .slice none 0 0, .int .i64 0]) ?_ 1 _ rfl; (with_reducible repeat (first | refine blk_drewN ?_ _ | refine blk_drew ?_ | refine blk_alloc ?_ _)); refine blk_put (cs := #[.int .i64 0, .int .i64 0, .slice none 0 0, .int .i64 0]) ?_ 0 _ rfl; (with_reducible repeat (first | refine blk_drewN ?_ _ | refine blk_drew ?_ | refine blk_alloc ?_ _)); exact BK175.out) hb); have n6_ := Kit.hB hb; clear HO156; clear HO163; clear HO173; clear BK158; clear BK165; clear BK175; clear HB; have HO156 := n0_; have HO163 := n1_; have HO173 := n2_; have BK158 := n3_; have BK165 := n4_; have BK175 := n5_; have HB := n6_; clear n0_ n1_ n2_ n3_ n4_ n5_ n6_; (try clear hb); (try clear hb2); (try clear hk); (try clear hi); obtain ⟨hcz105_0, hcz105_1, hcz105_2, hcz105_3, hfz105_0, hfz105_1, hfz105_2, hfz105_3⟩ := Kit.c4 BK165.out) | ((with_reducible refine gate_callee (f := 39) rfl ?_); refine goesL_ (some 40) rfl rfl Try.func39 (by kernel_rfl) rfl #[.agg #[.int .i64 t159, .int .i64 t160, .slice Ao90 t161.length co90, .int .i64 t164], .int .i64 1] rfl Kit.am ?_; (with_reducible refine (laws_heldShard.calls k t159 t160 _ _ t161 t164 1 t177 _ ?side1 ?side2 A29.out).mono ?_); (case side1 => exact Kit.cx ((Kd.S_reads' HO163.out).2.2)); (case side2 => exact (Kd.S_reads' HO163.out).2.1); rintro e w106 ⟨rfl, hb⟩; refine ⟨_, rfl, ?_⟩; replace HO156 := Aside0.mk (Kd.S_below (Kit.sx HO156.out) hb); replace HO163 := Aside0.mk (Kd.S_below (Kit.sx HO163.out) hb); replace HO173 := Aside0.mk (Kd.S_below (Kit.sx HO173.out) hb); replace BK158 := Kit.bB BK158 hb; replace BK165 := Kit.bB BK165 hb; replace BK175 := Kit.bB BK175 hb; replace HB := Kit.hB hb; (try clear hb); (try clear hb2); (try clear hk); (try clear hi)))
    go_ret
    exact ⟨Kit.er, Kit.bl⟩

/-- THE ONE PURE STATEMENT of laws_FnExactShardNew. -/
def laws_FnExactShardNew.Pure : Prop := ∀ (x0 : Int) (x1 : Int), (Lit.int .i64 x0).wf = true → (Lit.int .i64 x1).wf = true → ∃ k, laws_FnExactShardNew.f k x0 x1 = some true
theorem laws_FnExactShardNew.walk (P : laws_FnExactShardNew.Pure) (x0 : Int) (x1 : Int) (w : World) (hf0 : (Lit.int .i64 x0).wf = true) (hf1 : (Lit.int .i64 x1).wf = true) :
    Calls Try.prog 10 #[.int .i64 x0, .int .i64 x1] w fun e w' => e = .returned (.bool true) ∧ Below w.heap.size w w' := by
  obtain ⟨k, h⟩ := P x0 x1 hf0 hf1
  refine (laws_FnExactShardNew.calls k x0 x1 true w  h).mono ?_
  rintro e w' ⟨rfl, hd⟩
  exact ⟨rfl, hd⟩

end Go.Proofs.Ytlhnhilaeoegoaa.QFnExactShardNew
