-- Written by own.py, a program of this session's own, which calls the kit's print. Lean checks it.
import Derived.Test.YtlhnhilaeoegoaaQFnExactSameOriginx0
import Derived.Test.YtlhnhilaeoegoaaQFnExactSameOriginx2
import Derived.Test.YtlhnhilaeoegoaaQFnExactSameOriginx4
import Derived.Test.YtlhnhilaeoegoaaQFnExactSameOriginx5
namespace Go.Proofs.Ytlhnhilaeoegoaa.QFnExactSameOrigin
open Go.RowKit Go.Proofs.YtlhnhilaeoegoaaW.PrintWords Go.Proofs.YtlhnhilaeoegoaaW.PrintLast Go.Proofs.YtlhnhilaeoegoaaW.PrintMore
attribute [local go_sem] Kit.run_store_one max2_int min2_int max_two min_two max_three min_three max_four min_four   -- for this text's walks alone
set_option linter.unusedVariables false
set_option linter.unusedSimpArgs false

/-! ### laws_FnExactSameOrigin: function 11 -/
def laws_FnExactSameOrigin.f (k : Nat) (l0_0 : List (S98)) (l1_0 : List (S98)) : Option (Bool) := (laws_szOrigin.f k l0_0 1048576).bind fun t180 => (if t180 < 0 then (some true) else ((laws_szOrigin.f k l1_0 t180).bind fun t181 => (if t181 < 0 then (some true) else ((laws_toOrigin.f k l0_0).bind fun t182 => ((laws_toOrigin.f k l1_0).bind fun t185 => ((spec_SameOrigin.f k t182 t185).bind fun t188 => ((laws_toOrigin.f k l0_0).bind fun t189 => ((laws_toOrigin.f k l1_0).bind fun t193 => ((impl_SameOrigin.f k t189 t193).bind fun t197 => (if (t197 != t188) = true then (some false) else ((laws_toOrigin.f k l0_0).bind fun t198 => ((laws_eqOrigin.f k t189 t198).bind fun t201 => (if t201 = true then ((laws_toOrigin.f k l1_0).bind fun t202 => ((laws_eqOrigin.f k t193 t202).bind fun t205 => (if t205 = true then (some true) else (some false)))) else (some false))))))))))))))
theorem laws_FnExactSameOrigin.mono : ∀ a0 a1 k, LeO (laws_FnExactSameOrigin.f k a0 a1) (laws_FnExactSameOrigin.f (k + 1) a0 a1) := by
  intro a0 a1 k
  unfold laws_FnExactSameOrigin.f
  repeat' first
      | (with_reducible exact impl_SameOrigin.mono _ _ _)
      | (with_reducible exact laws_eqOrigin.mono _ _ _)
      | (with_reducible exact laws_szOrigin.mono _ _ _)
      | (with_reducible exact laws_toOrigin.mono _ _)
      | (with_reducible exact spec_SameOrigin.mono _ _ _)
      | (with_reducible exact LeO.refl _)
      | (with_reducible exact LeO.none _)
      | (with_reducible refine LeO.ite ?_ ?_)
      | (with_reducible refine LeO.bind ?_ (fun _ => ?_))
      | exact impl_SameOrigin.mono _ _ _
      | exact laws_eqOrigin.mono _ _ _
      | exact laws_szOrigin.mono _ _ _
      | exact laws_toOrigin.mono _ _
      | exact spec_SameOrigin.mono _ _ _
      | exact LeO.none _
      | refine LeO.ite ?_ ?_
      | refine LeO.bind ?_ (fun _ => ?_)
set_option maxHeartbeats 8000000 in
set_option maxRecDepth 100000 in
theorem laws_FnExactSameOrigin.calls (k : Nat) (A0_0 : Option Addr) (c0_0 : Nat) (l0_0 : List (S98)) (A1_0 : Option Addr) (c1_0 : Nat) (l1_0 : List (S98)) (r : Bool) (w : World) (hr0_0 : Kd.C k98 w A0_0 l0_0.length l0_0) (hc0_0 : l0_0.length ≤ c0_0) (hr1_0 : Kd.C k98 w A1_0 l1_0.length l1_0) (hc1_0 : l1_0.length ≤ c1_0) (h : laws_FnExactSameOrigin.f k l0_0 l1_0 = some r) :
    Calls Try.prog 11 #[.agg #[.slice A0_0 l0_0.length c0_0], .agg #[.slice A1_0 l1_0.length c1_0]] w fun e w' => e = .returned (.bool r) ∧ Below w.heap.size w w' := by
  have hu33 := Try.underlying33
  have hu38 := Try.underlying38
  have HR0_0 := Aside0.mk hr0_0
  have HC0_0 := Aside0.mk hc0_0
  clear hr0_0 hc0_0
  have HR1_0 := Aside0.mk hr1_0
  have HC1_0 := Aside0.mk hc1_0
  clear hr1_0 hc1_0
  have HB := Aside0.mk (Below.refl w.heap.size w)
  have H : ((laws_szOrigin.f k l0_0 1048576).bind fun t180 => (if t180 < 0 then (some true) else ((laws_szOrigin.f k l1_0 t180).bind fun t181 => (if t181 < 0 then (some true) else ((laws_toOrigin.f k l0_0).bind fun t182 => ((laws_toOrigin.f k l1_0).bind fun t185 => ((spec_SameOrigin.f k t182 t185).bind fun t188 => ((laws_toOrigin.f k l0_0).bind fun t189 => ((laws_toOrigin.f k l1_0).bind fun t193 => ((impl_SameOrigin.f k t189 t193).bind fun t197 => (if (t197 != t188) = true then (some false) else ((laws_toOrigin.f k l0_0).bind fun t198 => ((laws_eqOrigin.f k t189 t198).bind fun t201 => (if t201 = true then ((laws_toOrigin.f k l1_0).bind fun t202 => ((laws_eqOrigin.f k t193 t202).bind fun t205 => (if t205 = true then (some true) else (some false)))) else (some false))))))))))))))) = some r := h
  clear h
  replace H := Option.bind_eq_some_iff.mp H
  obtain ⟨t180, A30, H⟩ := H
  replace H : (if t180 < 0 then (some true) else ((laws_szOrigin.f k l1_0 t180).bind fun t181 => (if t181 < 0 then (some true) else ((laws_toOrigin.f k l0_0).bind fun t182 => ((laws_toOrigin.f k l1_0).bind fun t185 => ((spec_SameOrigin.f k t182 t185).bind fun t188 => ((laws_toOrigin.f k l0_0).bind fun t189 => ((laws_toOrigin.f k l1_0).bind fun t193 => ((impl_SameOrigin.f k t189 t193).bind fun t197 => (if (t197 != t188) = true then (some false) else ((laws_toOrigin.f k l0_0).bind fun t198 => ((laws_eqOrigin.f k t189 t198).bind fun t201 => (if t201 = true then ((laws_toOrigin.f k l1_0).bind fun t202 => ((laws_eqOrigin.f k t193 t202).bind fun t205 => (if t205 = true then (some true) else (some false)))) else (some false)))))))))))))) = some r := H
  have A3 := Aside0.mk A30
  clear A30
  by_cases c4 : t180 < 0
  · rw [if_pos c4] at H
    have c4b0 : decide (t180 < 0) = true := decide_eq_true c4
    clear c4
    obtain rfl := Option.some.inj H
    go_enter Try.func11, Try.ntmps11
    go_wp2_with (first | ((with_reducible refine gate_dst (N := 2) rfl ?_); refine box_event ?hg (N := 2) ?hd (cs := #[.slice A0_0 l0_0.length c0_0]) (t := 33) ?hr ?_; (case hd => rfl); (case hg => rfl); (case hr => exact Kit.hr); intro gb178 hg w5 hbox hb; have BK178 := Aside0.mk (hbox); have GW178 := Aside0.mk (Kit.gx (w := w) hg); have GE178 := Aside0.mk (Kit.gx (w := w) hg); replace HB := Aside0.mk (below_step Kit.bl hb); clear hb hbox hg) | ((with_reducible refine gate_dst (N := 3) rfl ?_); refine box_event ?hg (N := 3) ?hd (cs := #[.slice A1_0 l1_0.length c1_0]) (t := 33) ?hr ?_; (case hd => rfl); (case hg => rfl); (case hr => exact Kit.hr); intro gb179 hg w6 hbox hb; have BK179 := Aside0.mk (hbox); have GW179 := Aside0.mk (Kit.gx (w := w) hg); have GE179 := Aside0.mk (Kit.gx (w := w) hg); replace HB := Aside0.mk (below_step Kit.bl hb); have NB178_179 := Aside0.mk (Kit.nlt hg BK178.out); have NB179_178 := Aside0.mk (Kit.ngt hg BK178.out); replace BK178 := Aside0.mk (Kit.bb BK178.out hb); clear hb hbox hg; have hnb7 := NB178_179.out; have hnc7 := NB179_178.out; obtain ⟨hcz8_0, hfz8_0⟩ := Kit.c1 BK178.out) | ((with_reducible refine gate_callee (f := 26) rfl ?_); refine goesL_ (some 12) rfl rfl Try.func26 (by kernel_rfl) rfl #[.agg #[.slice A0_0 l0_0.length c0_0], .int .i64 1048576] rfl Kit.am ?_; (with_reducible refine (laws_szOrigin.calls k _ _ l0_0 1048576 t180 _ ?side1 ?side2 A3.out).mono ?_); (case side1 => exact Kit.cx ((Kd.C_below HR0_0.out HB.out))); (case side2 => exact HC0_0.out); rintro e w9 ⟨rfl, hb⟩; refine ⟨_, rfl, ?_⟩; replace BK178 := Aside0.mk (Kit.bb BK178.out hb); replace BK179 := Aside0.mk (Kit.bb BK179.out hb); replace HB := Aside0.mk (below_step Kit.bl hb); (try clear hb); (try clear hb2); (try clear hk); (try clear hi)))
    go_ret
    exact ⟨Kit.er, Kit.bl⟩
  · rw [if_neg c4] at H
    have c4b0 : decide (t180 < 0) = false := decide_eq_false c4
    clear c4
    replace H := Option.bind_eq_some_iff.mp H
    obtain ⟨t181, A100, H⟩ := H
    replace H : (if t181 < 0 then (some true) else ((laws_toOrigin.f k l0_0).bind fun t182 => ((laws_toOrigin.f k l1_0).bind fun t185 => ((spec_SameOrigin.f k t182 t185).bind fun t188 => ((laws_toOrigin.f k l0_0).bind fun t189 => ((laws_toOrigin.f k l1_0).bind fun t193 => ((impl_SameOrigin.f k t189 t193).bind fun t197 => (if (t197 != t188) = true then (some false) else ((laws_toOrigin.f k l0_0).bind fun t198 => ((laws_eqOrigin.f k t189 t198).bind fun t201 => (if t201 = true then ((laws_toOrigin.f k l1_0).bind fun t202 => ((laws_eqOrigin.f k t193 t202).bind fun t205 => (if t205 = true then (some true) else (some false)))) else (some false)))))))))))) = some r := H
    have A10 := Aside0.mk A100
    clear A100
    by_cases c11 : t181 < 0
    · rw [if_pos c11] at H
      have c11b0 : decide (t181 < 0) = true := decide_eq_true c11
      clear c11
      obtain rfl := Option.some.inj H
      go_enter Try.func11, Try.ntmps11
      go_wp2_with (first | ((with_reducible refine gate_dst (N := 2) rfl ?_); refine box_event ?hg (N := 2) ?hd (cs := #[.slice A0_0 l0_0.length c0_0]) (t := 33) ?hr ?_; (case hd => rfl); (case hg => rfl); (case hr => exact Kit.hr); intro gb178 hg w12 hbox hb; have BK178 := Aside0.mk (hbox); have GW178 := Aside0.mk (Kit.gx (w := w) hg); have GE178 := Aside0.mk (Kit.gx (w := w) hg); replace HB := Aside0.mk (below_step Kit.bl hb); clear hb hbox hg) | ((with_reducible refine gate_dst (N := 3) rfl ?_); refine box_event ?hg (N := 3) ?hd (cs := #[.slice A1_0 l1_0.length c1_0]) (t := 33) ?hr ?_; (case hd => rfl); (case hg => rfl); (case hr => exact Kit.hr); intro gb179 hg w13 hbox hb; have BK179 := Aside0.mk (hbox); have GW179 := Aside0.mk (Kit.gx (w := w) hg); have GE179 := Aside0.mk (Kit.gx (w := w) hg); replace HB := Aside0.mk (below_step Kit.bl hb); have NB178_179 := Aside0.mk (Kit.nlt hg BK178.out); have NB179_178 := Aside0.mk (Kit.ngt hg BK178.out); replace BK178 := Aside0.mk (Kit.bb BK178.out hb); clear hb hbox hg; have hnb14 := NB178_179.out; have hnc14 := NB179_178.out; obtain ⟨hcz15_0, hfz15_0⟩ := Kit.c1 BK178.out) | ((with_reducible refine gate_callee (f := 26) rfl ?_); refine goesL_ (some 12) rfl rfl Try.func26 (by kernel_rfl) rfl #[.agg #[.slice A0_0 l0_0.length c0_0], .int .i64 1048576] rfl Kit.am ?_; (with_reducible refine (laws_szOrigin.calls k _ _ l0_0 1048576 t180 _ ?side1 ?side2 A3.out).mono ?_); (case side1 => exact Kit.cx ((Kd.C_below HR0_0.out HB.out))); (case side2 => exact HC0_0.out); rintro e w16 ⟨rfl, hb⟩; refine ⟨_, rfl, ?_⟩; replace BK178 := Aside0.mk (Kit.bb BK178.out hb); replace BK179 := Aside0.mk (Kit.bb BK179.out hb); replace HB := Aside0.mk (below_step Kit.bl hb); (try clear hb); (try clear hb2); (try clear hk); (try clear hi); obtain ⟨hcz17_0, hfz17_0⟩ := Kit.c1 BK179.out) | ((with_reducible refine gate_callee (f := 26) rfl ?_); refine goesL_ (some 17) rfl rfl Try.func26 (by kernel_rfl) rfl #[.agg #[.slice A1_0 l1_0.length c1_0], .int .i64 t180] rfl Kit.am ?_; (with_reducible refine (laws_szOrigin.calls k _ _ l1_0 t180 t181 _ ?side1 ?side2 A10.out).mono ?_); (case side1 => exact Kit.cx ((Kd.C_below HR1_0.out HB.out))); (case side2 => exact HC1_0.out); rintro e w18 ⟨rfl, hb⟩; refine ⟨_, rfl, ?_⟩; replace BK178 := Aside0.mk (Kit.bb BK178.out hb); replace BK179 := Aside0.mk (Kit.bb BK179.out hb); replace HB := Aside0.mk (below_step Kit.bl hb); (try clear hb); (try clear hb2); (try clear hk); (try clear hi)))
      go_ret
      exact ⟨Kit.er, Kit.bl⟩
    · rw [if_neg c11] at H
      have c11b0 : decide (t181 < 0) = false := decide_eq_false c11
      clear c11
      replace H := Option.bind_eq_some_iff.mp H
      obtain ⟨t182, A190, H⟩ := H
      replace H : ((laws_toOrigin.f k l1_0).bind fun t185 => ((spec_SameOrigin.f k t182 t185).bind fun t188 => ((laws_toOrigin.f k l0_0).bind fun t189 => ((laws_toOrigin.f k l1_0).bind fun t193 => ((impl_SameOrigin.f k t189 t193).bind fun t197 => (if (t197 != t188) = true then (some false) else ((laws_toOrigin.f k l0_0).bind fun t198 => ((laws_eqOrigin.f k t189 t198).bind fun t201 => (if t201 = true then ((laws_toOrigin.f k l1_0).bind fun t202 => ((laws_eqOrigin.f k t193 t202).bind fun t205 => (if t205 = true then (some true) else (some false)))) else (some false)))))))))) = some r := H
      have A19 := Aside0.mk A190
      clear A190
      replace H := Option.bind_eq_some_iff.mp H
      obtain ⟨t185, A200, H⟩ := H
      replace H : ((spec_SameOrigin.f k t182 t185).bind fun t188 => ((laws_toOrigin.f k l0_0).bind fun t189 => ((laws_toOrigin.f k l1_0).bind fun t193 => ((impl_SameOrigin.f k t189 t193).bind fun t197 => (if (t197 != t188) = true then (some false) else ((laws_toOrigin.f k l0_0).bind fun t198 => ((laws_eqOrigin.f k t189 t198).bind fun t201 => (if t201 = true then ((laws_toOrigin.f k l1_0).bind fun t202 => ((laws_eqOrigin.f k t193 t202).bind fun t205 => (if t205 = true then (some true) else (some false)))) else (some false))))))))) = some r := H
      have A20 := Aside0.mk A200
      clear A200
      replace H := Option.bind_eq_some_iff.mp H
      obtain ⟨t188, A210, H⟩ := H
      replace H : ((laws_toOrigin.f k l0_0).bind fun t189 => ((laws_toOrigin.f k l1_0).bind fun t193 => ((impl_SameOrigin.f k t189 t193).bind fun t197 => (if (t197 != t188) = true then (some false) else ((laws_toOrigin.f k l0_0).bind fun t198 => ((laws_eqOrigin.f k t189 t198).bind fun t201 => (if t201 = true then ((laws_toOrigin.f k l1_0).bind fun t202 => ((laws_eqOrigin.f k t193 t202).bind fun t205 => (if t205 = true then (some true) else (some false)))) else (some false)))))))) = some r := H
      have A21 := Aside0.mk A210
      clear A210
      replace H := Option.bind_eq_some_iff.mp H
      obtain ⟨t189, A220, H⟩ := H
      replace H : ((laws_toOrigin.f k l1_0).bind fun t193 => ((impl_SameOrigin.f k t189 t193).bind fun t197 => (if (t197 != t188) = true then (some false) else ((laws_toOrigin.f k l0_0).bind fun t198 => ((laws_eqOrigin.f k t189 t198).bind fun t201 => (if t201 = true then ((laws_toOrigin.f k l1_0).bind fun t202 => ((laws_eqOrigin.f k t193 t202).bind fun t205 => (if t205 = true then (some true) else (some false)))) else (some false))))))) = some r := H
      have A22 := Aside0.mk A220
      clear A220
      replace H := Option.bind_eq_some_iff.mp H
      obtain ⟨t193, A230, H⟩ := H
      replace H : ((impl_SameOrigin.f k t189 t193).bind fun t197 => (if (t197 != t188) = true then (some false) else ((laws_toOrigin.f k l0_0).bind fun t198 => ((laws_eqOrigin.f k t189 t198).bind fun t201 => (if t201 = true then ((laws_toOrigin.f k l1_0).bind fun t202 => ((laws_eqOrigin.f k t193 t202).bind fun t205 => (if t205 = true then (some true) else (some false)))) else (some false)))))) = some r := H
      have A23 := Aside0.mk A230
      clear A230
      replace H := Option.bind_eq_some_iff.mp H
      obtain ⟨t197, A240, H⟩ := H
      replace H : (if (t197 != t188) = true then (some false) else ((laws_toOrigin.f k l0_0).bind fun t198 => ((laws_eqOrigin.f k t189 t198).bind fun t201 => (if t201 = true then ((laws_toOrigin.f k l1_0).bind fun t202 => ((laws_eqOrigin.f k t193 t202).bind fun t205 => (if t205 = true then (some true) else (some false)))) else (some false))))) = some r := H
      have A24 := Aside0.mk A240
      clear A240
      by_cases c25 : (t197 != t188) = true
      · rw [if_pos c25] at H
        have c25b0 : (t197 != t188) = true := c25
        (try (have c25b1 : decide (t197 = t188) = false := by simpa using c25))
        (try (have c25b2 : (t197 == t188) = false := by simpa using c25))
        (try (have c25b3 : ¬ (t197 = t188) := by simpa using c25))
        clear c25
        obtain rfl := Option.some.inj H
        go_enter Try.func11, Try.ntmps11
        try go_wp2_with (first | ((with_reducible refine gate_dst (N := 2) rfl ?_); refine box_event ?hg (N := 2) ?hd (cs := #[.slice A0_0 l0_0.length c0_0]) (t := 33) ?hr ?_; (case hd => rfl); (case hg => rfl); (case hr => exact Kit.hr); intro gb178 hg w26 hbox hb; have BK178 := Aside0.mk (hbox); have GW178 := Aside0.mk (Kit.gx (w := w) hg); have GE178 := Aside0.mk (Kit.gx (w := w) hg); replace HB := Aside0.mk (below_step Kit.bl hb); clear hb hbox hg) | ((with_reducible refine gate_dst (N := 3) rfl ?_); refine box_event ?hg (N := 3) ?hd (cs := #[.slice A1_0 l1_0.length c1_0]) (t := 33) ?hr ?_; (case hd => rfl); (case hg => rfl); (case hr => exact Kit.hr); intro gb179 hg w27 hbox hb; have BK179 := Aside0.mk (hbox); have GW179 := Aside0.mk (Kit.gx (w := w) hg); have GE179 := Aside0.mk (Kit.gx (w := w) hg); replace HB := Aside0.mk (below_step Kit.bl hb); have NB178_179 := Aside0.mk (Kit.nlt hg BK178.out); have NB179_178 := Aside0.mk (Kit.ngt hg BK178.out); replace BK178 := Aside0.mk (Kit.bb BK178.out hb); clear hb hbox hg; have hnb28 := NB178_179.out; have hnc28 := NB179_178.out; obtain ⟨hcz29_0, hfz29_0⟩ := Kit.c1 BK178.out) | ((with_reducible refine gate_callee (f := 26) rfl ?_); refine goesL_ (some 12) rfl rfl Try.func26 (by kernel_rfl) rfl #[.agg #[.slice A0_0 l0_0.length c0_0], .int .i64 1048576] rfl Kit.am ?_; (with_reducible refine (laws_szOrigin.calls k _ _ l0_0 1048576 t180 _ ?side1 ?side2 A3.out).mono ?_); (case side1 => exact Kit.cx ((Kd.C_below HR0_0.out HB.out))); (case side2 => exact HC0_0.out); rintro e w30 ⟨rfl, hb⟩; refine ⟨_, rfl, ?_⟩; replace BK178 := Aside0.mk (Kit.bb BK178.out hb); replace BK179 := Aside0.mk (Kit.bb BK179.out hb); replace HB := Aside0.mk (below_step Kit.bl hb); (try clear hb); (try clear hb2); (try clear hk); (try clear hi); obtain ⟨hcz31_0, hfz31_0⟩ := Kit.c1 BK179.out) | ((with_reducible refine gate_callee (f := 26) rfl ?_); refine goesL_ (some 17) rfl rfl Try.func26 (by kernel_rfl) rfl #[.agg #[.slice A1_0 l1_0.length c1_0], .int .i64 t180] rfl Kit.am ?_; (with_reducible refine (laws_szOrigin.calls k _ _ l1_0 t180 t181 _ ?side1 ?side2 A10.out).mono ?_); (case side1 => exact Kit.cx ((Kd.C_below HR1_0.out HB.out))); (case side2 => exact HC1_0.out); rintro e w32 ⟨rfl, hb⟩; refine ⟨_, rfl, ?_⟩; replace BK178 := Aside0.mk (Kit.bb BK178.out hb); replace BK179 := Aside0.mk (Kit.bb BK179.out hb); replace HB := Aside0.mk (below_step Kit.bl hb); (try clear hb); (try clear hb2); (try clear hk); (try clear hi)))
        replace BK178 := Aside0.mk (blk_drew BK178.out)
        replace BK179 := Aside0.mk (blk_drew BK179.out)
        replace HB := Aside0.mk (below_drew1 HB.out)
        refine start_ (n := 6) (S := fun w' => w'.cell? ⟨gb178, 0, none⟩ = some (.slice A0_0 l0_0.length c0_0) ∧ w'.cell? ⟨gb179, 0, none⟩ = some (.slice A1_0 l1_0.length c1_0)) (ds := []) #[false, false, false, false, false, false] (by kernel_rfl) rfl rfl ⟨(blk_cell BK178.out 0).trans rfl, (blk_cell BK179.out 0).trans rfl⟩ (fun hHeld => ?_)
        generalize w32.drew = w33 at BK178 BK179 HB hHeld ⊢
        refine take_ (i := 0) (N := some 20) (v := ?_) (a' := ?_) #[true, false, false, false, false, false] rfl rfl (by kernel_rfl) (fun _ _ _ h => h) (Or.inl ⟨by rfl, ?_⟩) hHeld ?_ ?_
        rotate_left
        · rintro w' ⟨s0, s1⟩
          go_simp
          with_reducible rfl
        rotate_left
        · simp only [Act.put, List.setIfInBounds_toArray, List.set_cons_zero, List.set_cons_succ, i64_w, i32_w]
          rfl
        refine take_ (i := 2) (N := some 22) (v := ?_) (a' := ?_) #[true, false, true, false, false, false] rfl rfl (by kernel_rfl) (fun _ _ _ h => h) (Or.inl ⟨by rfl, ?_⟩) hHeld ?_ ?_
        rotate_left
        · rintro w' ⟨s0, s1⟩
          go_simp
          with_reducible rfl
        rotate_left
        · simp only [Act.put, List.setIfInBounds_toArray, List.set_cons_zero, List.set_cons_succ, i64_w, i32_w]
          rfl
        refine one_ (i := 1) (N := some 21) #[true, true, true, false, false, false] rfl rfl (by kernel_rfl) (by decide) (fun K hK => ?_)
        refine goes_ Try.func28 (by kernel_rfl) rfl #[.agg #[.slice A0_0 l0_0.length c0_0]] (by rfl) rfl rfl Kit.am ?_
        with_reducible refine (laws_toOrigin.calls k _ _ l0_0 t182 _ ?side1 ?side2 A19.out).mono ?_
        (case side1 => exact Kit.cx ((Kd.C_below HR0_0.out HB.out)))
        (case side2 => exact HC0_0.out)
        rintro e w34 ⟨v183, rfl, ho0, hb⟩
        refine ⟨_, rfl, ?_⟩
        have HO184 := Aside0.mk (Kd.S_lower ho0 Kit.bz)
        replace BK178 := Aside0.mk (Kit.bb BK178.out hb)
        replace BK179 := Aside0.mk (Kit.bb BK179.out hb)
        replace HB := Aside0.mk (below_step Kit.bl hb)
        (try clear hb)
        (try clear hb2)
        (try clear hk)
        (try clear hi)
        (try clear ho0)
        refine hK.out _ _ ⟨(blk_cell BK178.out 0).trans rfl, (blk_cell BK179.out 0).trans rfl⟩ (fun hHeld => ?_)
        clear hK K
        refine norm_ (a' := ?_) ?_ ?_
        rotate_left
        · show Act.put _ (some 21) _ = _
          simp only [Act.put, List.setIfInBounds_toArray, List.set_cons_zero, List.set_cons_succ, i64_w, i32_w]
          rfl
        refine one_ (i := 3) (N := some 23) #[true, true, true, true, false, false] rfl rfl (by kernel_rfl) (by decide) (fun K hK => ?_)
        refine goes_ Try.func28 (by kernel_rfl) rfl #[.agg #[.slice A1_0 l1_0.length c1_0]] (by rfl) rfl rfl Kit.am ?_
        with_reducible refine (laws_toOrigin.calls k _ _ l1_0 t185 _ ?side1 ?side2 A20.out).mono ?_
        (case side1 => exact Kit.cx ((Kd.C_below HR1_0.out HB.out)))
        (case side2 => exact HC1_0.out)
        rintro e w35 ⟨v186, rfl, ho0, hb⟩
        refine ⟨_, rfl, ?_⟩
        have HO187 := Aside0.mk (Kd.S_lower (Kd.S_new' ho0 (Kd.S_lt (Kit.sx HO184.out))) Kit.bz)
        replace HO184 := Aside0.mk (Kd.S_elder' (Kit.sx HO184.out) (Kd.S_base ho0) hb)
        replace BK178 := Aside0.mk (Kit.bb BK178.out hb)
        replace BK179 := Aside0.mk (Kit.bb BK179.out hb)
        replace HB := Aside0.mk (below_step Kit.bl hb)
        (try clear hb)
        (try clear hb2)
        (try clear hk)
        (try clear hi)
        (try clear ho0)
        obtain ⟨Ao36, co36, eo36⟩ := Kd.S_slice HO184.out
        (first | subst eo36 | (injection eo36 with f1_ f2_ f3_; have f4_ := f1_.symm; have f5_ := f3_.symm; clear f1_ f2_ f3_; subst f4_; subst f5_))
        obtain ⟨Ao37, co37, eo37⟩ := Kd.S_slice HO187.out
        (first | subst eo37 | (injection eo37 with f1_ f2_ f3_; have f4_ := f1_.symm; have f5_ := f3_.symm; clear f1_ f2_ f3_; subst f4_; subst f5_))
        refine hK.out _ _ ⟨(blk_cell BK178.out 0).trans rfl, (blk_cell BK179.out 0).trans rfl⟩ (fun hHeld => ?_)
        clear hK K
        refine norm_ (a' := ?_) ?_ ?_
        rotate_left
        · show Act.put _ (some 23) _ = _
          simp only [Act.put, List.setIfInBounds_toArray, List.set_cons_zero, List.set_cons_succ, i64_w, i32_w]
          rfl
        refine one_ (i := 4) (N := some 24) #[true, true, true, true, true, false] rfl rfl (by kernel_rfl) (by decide) (fun K hK => ?_)
        refine goes_ Try.func40 (by kernel_rfl) rfl #[.agg #[.slice Ao36 t182.length co36], .agg #[.slice Ao37 t185.length co37]] (by rfl) rfl rfl Kit.am ?_
        with_reducible refine (spec_SameOrigin.calls k _ _ t182 _ _ t185 t188 _ ?side1 ?side2 ?side3 ?side4 A21.out).mono ?_
        (case side1 => exact Kit.cx ((Kd.S_reads' HO184.out).2.2))
        (case side2 => exact (Kd.S_reads' HO184.out).2.1)
        (case side3 => exact Kit.cx ((Kd.S_reads' HO187.out).2.2))
        (case side4 => exact (Kd.S_reads' HO187.out).2.1)
        rintro e w38 ⟨rfl, hb⟩
        refine ⟨_, rfl, ?_⟩
        replace HO184 := Aside0.mk (Kd.S_below (Kit.sx HO184.out) hb)
        replace HO187 := Aside0.mk (Kd.S_below (Kit.sx HO187.out) hb)
        replace BK178 := Aside0.mk (Kit.bb BK178.out hb)
        replace BK179 := Aside0.mk (Kit.bb BK179.out hb)
        replace HB := Aside0.mk (below_step Kit.bl hb)
        (try clear hb)
        (try clear hb2)
        (try clear hk)
        (try clear hi)
        refine hK.out _ _ ⟨(blk_cell BK178.out 0).trans rfl, (blk_cell BK179.out 0).trans rfl⟩ (fun hHeld => ?_)
        clear hK K
        refine norm_ (a' := ?_) ?_ ?_
        rotate_left
        · show Act.put _ (some 24) _ = _
          simp only [Act.put, List.setIfInBounds_toArray, List.set_cons_zero, List.set_cons_succ, i64_w, i32_w]
          rfl
        refine pure_ (i := 5) (N := some 6) (v := ?_) (a' := ?_) #[true, true, true, true, true, true] rfl rfl (by kernel_rfl) (fun _ _ _ h => h) (Or.inl ⟨by rfl, ?_⟩) ?_ ?_
        rotate_left
        · intro w'
          go_simp
          with_reducible rfl
        rotate_left
        · simp only [Act.put, List.setIfInBounds_toArray, List.set_cons_zero, List.set_cons_succ, i64_w, i32_w]
          rfl
        refine done_ (by kernel_rfl) ?_
        obtain ⟨hcz39_0, hfz39_0⟩ := Kit.c1 BK178.out
        try go_wp2_with (first | ((with_reducible refine gate_callee (f := 28) rfl ?_); refine goesL_ (some 26) rfl rfl Try.func28 (by kernel_rfl) rfl #[.agg #[.slice A0_0 l0_0.length c0_0]] rfl Kit.am ?_; (with_reducible refine (laws_toOrigin.calls k _ _ l0_0 t189 _ ?side1 ?side2 A22.out).mono ?_); (case side1 => exact Kit.cx ((Kd.C_below HR0_0.out HB.out))); (case side2 => exact HC0_0.out); rintro e w40 ⟨v190, rfl, ho0, hb⟩; refine ⟨_, rfl, ?_⟩; have one_v190 : (v190 : Value).oneCell' = true := Kit.ov0; have HO191 := Aside0.mk (Kd.S_lower (Kd.S_new' (Kd.S_new' ho0 (Kd.S_lt (Kit.sx HO184.out))) (Kd.S_lt (Kit.sx HO187.out))) Kit.bz); replace HO184 := Aside0.mk (Kd.S_elder' (Kit.sx HO184.out) (Kd.S_base ho0) hb); replace HO187 := Aside0.mk (Kd.S_elder' (Kit.sx HO187.out) (Kd.S_base ho0) hb); replace BK178 := Aside0.mk (Kit.bb BK178.out hb); replace BK179 := Aside0.mk (Kit.bb BK179.out hb); replace HB := Aside0.mk (below_step Kit.bl hb); (try clear hb); (try clear hb2); (try clear hk); (try clear hi); (try clear ho0)) | ((with_reducible refine gate_dst (N := 7) rfl ?_); refine box_event ?hg (N := 7) ?hd (cs := #[.slice none 0 0]) (t := 38) ?hr ?_; (case hd => rfl); (case hg => rfl); (case hr => exact Kit.hr); intro gb192 hg w41 hbox hb; replace HO184 := Aside0.mk (Kd.S_below (Kit.sx HO184.out) hb); replace HO187 := Aside0.mk (Kd.S_below (Kit.sx HO187.out) hb); replace HO191 := Aside0.mk (Kd.S_below (Kit.sx HO191.out) hb); have BK192 := Aside0.mk (hbox); have GW192 := Aside0.mk (Kit.gx (w := w) hg); have GE192 := Aside0.mk (Kit.gx (w := w) hg); replace HB := Aside0.mk (below_step Kit.bl hb); have NB178_192 := Aside0.mk (Kit.nlt hg BK178.out); have NB192_178 := Aside0.mk (Kit.ngt hg BK178.out); replace BK178 := Aside0.mk (Kit.bb BK178.out hb); have NB179_192 := Aside0.mk (Kit.nlt hg BK179.out); have NB192_179 := Aside0.mk (Kit.ngt hg BK179.out); replace BK179 := Aside0.mk (Kit.bb BK179.out hb); clear hb hbox hg; obtain ⟨Ao42, co42, eo42⟩ := Kd.S_slice HO191.out; subst eo42; have hnb43 := NB192_178.out; have hnc43 := NB178_192.out; have hnb44 := NB192_179.out; have hnc44 := NB179_192.out; obtain ⟨hcz45_0, hfz45_0⟩ := Kit.c1 BK192.out; obtain ⟨hcz46_0, hfz46_0⟩ := Kit.c1 BK179.out) | ((with_reducible refine gate_callee (f := 28) rfl ?_); refine goesL_ (some 28) rfl rfl Try.func28 (by kernel_rfl) rfl #[.agg #[.slice A1_0 l1_0.length c1_0]] rfl Kit.am ?_; (with_reducible refine (laws_toOrigin.calls k _ _ l1_0 t193 _ ?side1 ?side2 A23.out).mono ?_); (case side1 => exact Kd.C_below HR1_0.out Kit.bl); (case side2 => exact HC1_0.out); rintro e w47 ⟨v194, rfl, ho0, hb⟩; refine ⟨_, rfl, ?_⟩; have one_v194 : (v194 : Value).oneCell' = true := Kit.ov0; have n0_ := Aside0.mk (Kd.S_elder' (by (with_reducible repeat (first | apply Kd.S_alloc | apply Kd.S_drewN | apply Kd.S_drew)); exact (Kd.S_mono (Kd.S_far (p := ⟨gb192, 0, none⟩) (Kd.S_types HO184.out BK192.out (by decide)) (fun _ hk => hk.2) (.slice Ao42 t189.length co42)) (fun _ h_ => h_.1))) (Kd.S_base ho0) hb); have n1_ := Aside0.mk (Kd.S_elder' (by (with_reducible repeat (first | apply Kd.S_alloc | apply Kd.S_drewN | apply Kd.S_drew)); exact (Kd.S_mono (Kd.S_far (p := ⟨gb192, 0, none⟩) (Kd.S_types HO187.out BK192.out (by decide)) (fun _ hk => hk.2) (.slice Ao42 t189.length co42)) (fun _ h_ => h_.1))) (Kd.S_base ho0) hb); have n2_ := Aside0.mk (Kd.S_elder' (by (with_reducible repeat (first | apply Kd.S_alloc | apply Kd.S_drewN | apply Kd.S_drew)); exact (Kd.S_mono (Kd.S_far (p := ⟨gb192, 0, none⟩) (Kd.S_types HO191.out BK192.out (by decide)) (fun _ hk => hk.2) (.slice Ao42 t189.length co42)) (fun _ h_ => h_.1))) (Kd.S_base ho0) hb); have n3_ := Aside0.mk (Kd.S_lower (Kd.S_new' (Kd.S_new' (Kd.S_new' ho0 (Kd.S_lt (by (with_reducible repeat (first | apply Kd.S_alloc | apply Kd.S_drewN | apply Kd.S_drew)); exact (Kd.S_mono (Kd.S_far (p := ⟨gb192, 0, none⟩) (Kd.S_types HO184.out BK192.out (by decide)) (fun _ hk => hk.2) (.slice Ao42 t189.length co42)) (fun _ h_ => h_.1))))) (Kd.S_lt (by (with_reducible repeat (first | apply Kd.S_alloc | apply Kd.S_drewN | apply Kd.S_drew)); exact (Kd.S_mono (Kd.S_far (p := ⟨gb192, 0, none⟩) (Kd.S_types HO187.out BK192.out (by decide)) (fun _ hk => hk.2) (.slice Ao42 t189.length co42)) (fun _ h_ => h_.1))))) (Kd.S_lt (by (with_reducible repeat (first | apply Kd.S_alloc | apply Kd.S_drewN | apply Kd.S_drew)); exact (Kd.S_mono (Kd.S_far (p := ⟨gb192, 0, none⟩) (Kd.S_types HO191.out BK192.out (by decide)) (fun _ hk => hk.2) (.slice Ao42 t189.length co42)) (fun _ h_ => h_.1))))) Kit.bz); have n4_ := Aside0.mk (Kit.bf BK178.out hb); have n5_ := Aside0.mk (Kit.bf BK179.out hb); have n6_ := Aside0.mk (blk_below (g := gb192) (o := .cells #[.slice Ao42 t189.length co42] 38 (0, 0)) (by (with_reducible repeat (first | refine blk_drewN ?_ _ | refine blk_drew ?_ | refine blk_alloc ?_ _)); refine blk_put (cs := #[.slice none 0 0]) ?_ 0 _ rfl; (with_reducible repeat (first | refine blk_drewN ?_ _ | refine blk_drew ?_ | refine blk_alloc ?_ _)); exact BK192.out) hb); have n7_ := Aside0.mk (below_step Kit.bl hb); clear HO184; clear HO187; clear HO191; clear BK178; clear BK179; clear BK192; clear HB; have HO184 := n0_; have HO187 := n1_; have HO191 := n2_; have HO195 := n3_; have BK178 := n4_; have BK179 := n5_; have BK192 := n6_; have HB := n7_; clear n0_ n1_ n2_ n3_ n4_ n5_ n6_ n7_; (try clear hb); (try clear hb2); (try clear hk); (try clear hi); (try clear ho0)) | ((with_reducible refine gate_dst (N := 8) rfl ?_); refine box_event ?hg (N := 8) ?hd (cs := #[.slice none 0 0]) (t := 38) ?hr ?_; (case hd => rfl); (case hg => rfl); (case hr => exact Kit.hr); intro gb196 hg w48 hbox hb; replace HO184 := Aside0.mk (Kd.S_below (Kit.sx HO184.out) hb); replace HO187 := Aside0.mk (Kd.S_below (Kit.sx HO187.out) hb); replace HO191 := Aside0.mk (Kd.S_below (Kit.sx HO191.out) hb); replace HO195 := Aside0.mk (Kd.S_below (Kit.sx HO195.out) hb); have BK196 := Aside0.mk (hbox); have GW196 := Aside0.mk (Kit.gx (w := w) hg); have GE196 := Aside0.mk (Kit.gx (w := w) hg); replace HB := Aside0.mk (below_step Kit.bl hb); have NB178_196 := Aside0.mk (Kit.nlt hg BK178.out); have NB196_178 := Aside0.mk (Kit.ngt hg BK178.out); replace BK178 := Aside0.mk (Kit.bb BK178.out hb); have NB179_196 := Aside0.mk (Kit.nlt hg BK179.out); have NB196_179 := Aside0.mk (Kit.ngt hg BK179.out); replace BK179 := Aside0.mk (Kit.bb BK179.out hb); have NB192_196 := Aside0.mk (Kit.nlt hg BK192.out); have NB196_192 := Aside0.mk (Kit.ngt hg BK192.out); replace BK192 := Aside0.mk (Kit.bb BK192.out hb); clear hb hbox hg; obtain ⟨Ao49, co49, eo49⟩ := Kd.S_slice HO195.out; subst eo49; have hnb50 := NB196_178.out; have hnc50 := NB178_196.out; have hnb51 := NB196_179.out; have hnc51 := NB179_196.out; have hnb52 := NB196_192.out; have hnc52 := NB192_196.out; obtain ⟨hcz53_0, hfz53_0⟩ := Kit.c1 BK196.out; obtain ⟨hcz54_0, hfz54_0⟩ := Kit.c1 BK192.out) | ((with_reducible refine gate_callee (f := 41) rfl ?_); refine goesL_ (some 31) rfl rfl Try.func41 (by kernel_rfl) rfl #[.agg #[.slice Ao42 t189.length co42], .agg #[.slice Ao49 t193.length co49]] rfl Kit.am ?_; (with_reducible refine (impl_SameOrigin.calls k _ _ t189 _ _ t193 t197 _ ?side1 ?side2 ?side3 ?side4 A24.out).mono ?_); (case side1 => refine (Kd.S_reads' (e := 71) (base := w.heap.size) (ok := fun k_ => (((True ∧ some k_ ≠ (.slice Ao36 t182.length co36 : Value).ownBlock) ∧ some k_ ≠ (.slice Ao37 t185.length co37 : Value).ownBlock) ∧ some k_ ≠ (.slice Ao49 t193.length co49 : Value).ownBlock)) (n := t189.length) (c := co42) ?_).2.2; exact (by (with_reducible repeat (first | apply Kd.S_alloc | apply Kd.S_drewN | apply Kd.S_drew)); exact (Kd.S_mono (Kd.S_far (p := ⟨gb196, 0, none⟩) (Kd.S_types HO191.out BK196.out (by decide)) (fun _ hk => hk.2) (.slice Ao49 t193.length co49)) (fun _ h_ => h_.1)))); (case side2 => exact (Kd.S_reads' HO191.out).2.1); (case side3 => refine (Kd.S_reads' (e := 71) (base := w.heap.size) (ok := fun k_ => (((True ∧ some k_ ≠ (.slice Ao36 t182.length co36 : Value).ownBlock) ∧ some k_ ≠ (.slice Ao37 t185.length co37 : Value).ownBlock) ∧ some k_ ≠ (.slice Ao42 t189.length co42 : Value).ownBlock)) (n := t193.length) (c := co49) ?_).2.2; exact (by (with_reducible repeat (first | apply Kd.S_alloc | apply Kd.S_drewN | apply Kd.S_drew)); exact (Kd.S_mono (Kd.S_far (p := ⟨gb196, 0, none⟩) (Kd.S_types HO195.out BK196.out (by decide)) (fun _ hk => hk.2) (.slice Ao49 t193.length co49)) (fun _ h_ => h_.1)))); (case side4 => exact (Kd.S_reads' HO195.out).2.1); rintro e w55 ⟨rfl, hb⟩; refine ⟨_, rfl, ?_⟩; have n0_ := Aside0.mk (Kd.S_below (by (with_reducible repeat (first | apply Kd.S_alloc | apply Kd.S_drewN | apply Kd.S_drew)); exact (Kd.S_mono (Kd.S_far (p := ⟨gb196, 0, none⟩) (Kd.S_types HO184.out BK196.out (by decide)) (fun _ hk => hk.2) (.slice Ao49 t193.length co49)) (fun _ h_ => h_.1))) hb); have n1_ := Aside0.mk (Kd.S_below (by (with_reducible repeat (first | apply Kd.S_alloc | apply Kd.S_drewN | apply Kd.S_drew)); exact (Kd.S_mono (Kd.S_far (p := ⟨gb196, 0, none⟩) (Kd.S_types HO187.out BK196.out (by decide)) (fun _ hk => hk.2) (.slice Ao49 t193.length co49)) (fun _ h_ => h_.1))) hb); have n2_ := Aside0.mk (Kd.S_below (by (with_reducible repeat (first | apply Kd.S_alloc | apply Kd.S_drewN | apply Kd.S_drew)); exact (Kd.S_mono (Kd.S_far (p := ⟨gb196, 0, none⟩) (Kd.S_types HO191.out BK196.out (by decide)) (fun _ hk => hk.2) (.slice Ao49 t193.length co49)) (fun _ h_ => h_.1))) hb); have n3_ := Aside0.mk (Kd.S_below (by (with_reducible repeat (first | apply Kd.S_alloc | apply Kd.S_drewN | apply Kd.S_drew)); exact (Kd.S_mono (Kd.S_far (p := ⟨gb196, 0, none⟩) (Kd.S_types HO195.out BK196.out (by decide)) (fun _ hk => hk.2) (.slice Ao49 t193.length co49)) (fun _ h_ => h_.1))) hb); have n4_ := Aside0.mk (Kit.bf BK178.out hb); have n5_ := Aside0.mk (Kit.bf BK179.out hb); have n6_ := Aside0.mk (Kit.bf BK192.out hb); have n7_ := Aside0.mk (blk_below (g := gb196) (o := .cells #[.slice Ao49 t193.length co49] 38 (0, 0)) (by (with_reducible repeat (first | refine blk_drewN ?_ _ | refine blk_drew ?_ | refine blk_alloc ?_ _)); refine blk_put (cs := #[.slice none 0 0]) ?_ 0 _ rfl; (with_reducible repeat (first | refine blk_drewN ?_ _ | refine blk_drew ?_ | refine blk_alloc ?_ _)); exact BK196.out) hb); have n8_ := Aside0.mk (below_step Kit.bl hb); clear HO184; clear HO187; clear HO191; clear HO195; clear BK178; clear BK179; clear BK192; clear BK196; clear HB; have HO184 := n0_; have HO187 := n1_; have HO191 := n2_; have HO195 := n3_; have BK178 := n4_; have BK179 := n5_; have BK192 := n6_; have BK196 := n7_; have HB := n8_; clear n0_ n1_ n2_ n3_ n4_ n5_ n6_ n7_ n8_; (try clear hb); (try clear hb2); (try clear hk); (try clear hi)))
        go_ret
        exact ⟨Kit.er, Kit.bl⟩
      · rw [if_neg c25] at H
        have c25b0 : (t197 != t188) = false := by simpa using c25
        (try (have c25b1 : decide (t197 = t188) = true := by simpa using c25))
        (try (have c25b2 : (t197 == t188) = true := by simpa using c25))
        clear c25
        replace H := Option.bind_eq_some_iff.mp H
        obtain ⟨t198, A560, H⟩ := H
        replace H : ((laws_eqOrigin.f k t189 t198).bind fun t201 => (if t201 = true then ((laws_toOrigin.f k l1_0).bind fun t202 => ((laws_eqOrigin.f k t193 t202).bind fun t205 => (if t205 = true then (some true) else (some false)))) else (some false))) = some r := H
        have A56 := Aside0.mk A560
        clear A560
        replace H := Option.bind_eq_some_iff.mp H
        obtain ⟨t201, A570, H⟩ := H
        replace H : (if t201 = true then ((laws_toOrigin.f k l1_0).bind fun t202 => ((laws_eqOrigin.f k t193 t202).bind fun t205 => (if t205 = true then (some true) else (some false)))) else (some false)) = some r := H
        have A57 := Aside0.mk A570
        clear A570
        by_cases c58 : t201 = true
        · subst c58
          have H1 : ((laws_toOrigin.f k l1_0).bind fun t202 => ((laws_eqOrigin.f k t193 t202).bind fun t205 => (if t205 = true then (some true) else (some false)))) = some r := by rw [if_pos rfl] at H; exact H
          clear H
          have H := H1
          clear H1
          replace H := Option.bind_eq_some_iff.mp H
          obtain ⟨t202, A590, H⟩ := H
          replace H : ((laws_eqOrigin.f k t193 t202).bind fun t205 => (if t205 = true then (some true) else (some false))) = some r := H
          have A59 := Aside0.mk A590
          clear A590
          replace H := Option.bind_eq_some_iff.mp H
          obtain ⟨t205, A600, H⟩ := H
          replace H : (if t205 = true then (some true) else (some false)) = some r := H
          have A60 := Aside0.mk A600
          clear A600
          by_cases c61 : t205 = true
          · subst c61
            have H1 : (some true) = some r := by rw [if_pos rfl] at H; exact H
            clear H
            have H := H1
            clear H1
            obtain rfl := Option.some.inj H
            go_enter Try.func11, Try.ntmps11
            try go_wp2_with (first | ((with_reducible refine gate_dst (N := 2) rfl ?_); refine box_event ?hg (N := 2) ?hd (cs := #[.slice A0_0 l0_0.length c0_0]) (t := 33) ?hr ?_; (case hd => rfl); (case hg => rfl); (case hr => exact Kit.hr); intro gb178 hg w62 hbox hb; have BK178 := Aside0.mk (hbox); have GW178 := Aside0.mk (Kit.gx (w := w) hg); have GE178 := Aside0.mk (Kit.gx (w := w) hg); replace HB := Aside0.mk (below_step Kit.bl hb); clear hb hbox hg) | ((with_reducible refine gate_dst (N := 3) rfl ?_); refine box_event ?hg (N := 3) ?hd (cs := #[.slice A1_0 l1_0.length c1_0]) (t := 33) ?hr ?_; (case hd => rfl); (case hg => rfl); (case hr => exact Kit.hr); intro gb179 hg w63 hbox hb; have BK179 := Aside0.mk (hbox); have GW179 := Aside0.mk (Kit.gx (w := w) hg); have GE179 := Aside0.mk (Kit.gx (w := w) hg); replace HB := Aside0.mk (below_step Kit.bl hb); have NB178_179 := Aside0.mk (Kit.nlt hg BK178.out); have NB179_178 := Aside0.mk (Kit.ngt hg BK178.out); replace BK178 := Aside0.mk (Kit.bb BK178.out hb); clear hb hbox hg; have hnb64 := NB178_179.out; have hnc64 := NB179_178.out; obtain ⟨hcz65_0, hfz65_0⟩ := Kit.c1 BK178.out) | ((with_reducible refine gate_callee (f := 26) rfl ?_); refine goesL_ (some 12) rfl rfl Try.func26 (by kernel_rfl) rfl #[.agg #[.slice A0_0 l0_0.length c0_0], .int .i64 1048576] rfl Kit.am ?_; (with_reducible refine (laws_szOrigin.calls k _ _ l0_0 1048576 t180 _ ?side1 ?side2 A3.out).mono ?_); (case side1 => exact Kit.cx ((Kd.C_below HR0_0.out HB.out))); (case side2 => exact HC0_0.out); rintro e w66 ⟨rfl, hb⟩; refine ⟨_, rfl, ?_⟩; replace BK178 := Aside0.mk (Kit.bb BK178.out hb); replace BK179 := Aside0.mk (Kit.bb BK179.out hb); replace HB := Aside0.mk (below_step Kit.bl hb); (try clear hb); (try clear hb2); (try clear hk); (try clear hi); obtain ⟨hcz67_0, hfz67_0⟩ := Kit.c1 BK179.out) | ((with_reducible refine gate_callee (f := 26) rfl ?_); refine goesL_ (some 17) rfl rfl Try.func26 (by kernel_rfl) rfl #[.agg #[.slice A1_0 l1_0.length c1_0], .int .i64 t180] rfl Kit.am ?_; (with_reducible refine (laws_szOrigin.calls k _ _ l1_0 t180 t181 _ ?side1 ?side2 A10.out).mono ?_); (case side1 => exact Kit.cx ((Kd.C_below HR1_0.out HB.out))); (case side2 => exact HC1_0.out); rintro e w68 ⟨rfl, hb⟩; refine ⟨_, rfl, ?_⟩; replace BK178 := Aside0.mk (Kit.bb BK178.out hb); replace BK179 := Aside0.mk (Kit.bb BK179.out hb); replace HB := Aside0.mk (below_step Kit.bl hb); (try clear hb); (try clear hb2); (try clear hk); (try clear hi)))
            replace BK178 := Aside0.mk (blk_drew BK178.out)
            replace BK179 := Aside0.mk (blk_drew BK179.out)
            replace HB := Aside0.mk (below_drew1 HB.out)
            refine start_ (n := 6) (S := fun w' => w'.cell? ⟨gb178, 0, none⟩ = some (.slice A0_0 l0_0.length c0_0) ∧ w'.cell? ⟨gb179, 0, none⟩ = some (.slice A1_0 l1_0.length c1_0)) (ds := []) #[false, false, false, false, false, false] (by kernel_rfl) rfl rfl ⟨(blk_cell BK178.out 0).trans rfl, (blk_cell BK179.out 0).trans rfl⟩ (fun hHeld => ?_)
            generalize w68.drew = w69 at BK178 BK179 HB hHeld ⊢
            refine take_ (i := 0) (N := some 20) (v := ?_) (a' := ?_) #[true, false, false, false, false, false] rfl rfl (by kernel_rfl) (fun _ _ _ h => h) (Or.inl ⟨by rfl, ?_⟩) hHeld ?_ ?_
            rotate_left
            · rintro w' ⟨s0, s1⟩
              go_simp
              with_reducible rfl
            rotate_left
            · simp only [Act.put, List.setIfInBounds_toArray, List.set_cons_zero, List.set_cons_succ, i64_w, i32_w]
              rfl
            refine take_ (i := 2) (N := some 22) (v := ?_) (a' := ?_) #[true, false, true, false, false, false] rfl rfl (by kernel_rfl) (fun _ _ _ h => h) (Or.inl ⟨by rfl, ?_⟩) hHeld ?_ ?_
            rotate_left
            · rintro w' ⟨s0, s1⟩
              go_simp
              with_reducible rfl
            rotate_left
            · simp only [Act.put, List.setIfInBounds_toArray, List.set_cons_zero, List.set_cons_succ, i64_w, i32_w]
              rfl
            refine one_ (i := 1) (N := some 21) #[true, true, true, false, false, false] rfl rfl (by kernel_rfl) (by decide) (fun K hK => ?_)
            refine goes_ Try.func28 (by kernel_rfl) rfl #[.agg #[.slice A0_0 l0_0.length c0_0]] (by rfl) rfl rfl Kit.am ?_
            with_reducible refine (laws_toOrigin.calls k _ _ l0_0 t182 _ ?side1 ?side2 A19.out).mono ?_
            (case side1 => exact Kit.cx ((Kd.C_below HR0_0.out HB.out)))
            (case side2 => exact HC0_0.out)
            rintro e w70 ⟨v183, rfl, ho0, hb⟩
            refine ⟨_, rfl, ?_⟩
            have HO184 := Aside0.mk (Kd.S_lower ho0 Kit.bz)
            replace BK178 := Aside0.mk (Kit.bb BK178.out hb)
            replace BK179 := Aside0.mk (Kit.bb BK179.out hb)
            replace HB := Aside0.mk (below_step Kit.bl hb)
            (try clear hb)
            (try clear hb2)
            (try clear hk)
            (try clear hi)
            (try clear ho0)
            refine hK.out _ _ ⟨(blk_cell BK178.out 0).trans rfl, (blk_cell BK179.out 0).trans rfl⟩ (fun hHeld => ?_)
            clear hK K
            refine norm_ (a' := ?_) ?_ ?_
            rotate_left
            · show Act.put _ (some 21) _ = _
              simp only [Act.put, List.setIfInBounds_toArray, List.set_cons_zero, List.set_cons_succ, i64_w, i32_w]
              rfl
            refine one_ (i := 3) (N := some 23) #[true, true, true, true, false, false] rfl rfl (by kernel_rfl) (by decide) (fun K hK => ?_)
            refine goes_ Try.func28 (by kernel_rfl) rfl #[.agg #[.slice A1_0 l1_0.length c1_0]] (by rfl) rfl rfl Kit.am ?_
            with_reducible refine (laws_toOrigin.calls k _ _ l1_0 t185 _ ?side1 ?side2 A20.out).mono ?_
            (case side1 => exact Kit.cx ((Kd.C_below HR1_0.out HB.out)))
            (case side2 => exact HC1_0.out)
            rintro e w71 ⟨v186, rfl, ho0, hb⟩
            refine ⟨_, rfl, ?_⟩
            have HO187 := Aside0.mk (Kd.S_lower (Kd.S_new' ho0 (Kd.S_lt (Kit.sx HO184.out))) Kit.bz)
            replace HO184 := Aside0.mk (Kd.S_elder' (Kit.sx HO184.out) (Kd.S_base ho0) hb)
            replace BK178 := Aside0.mk (Kit.bb BK178.out hb)
            replace BK179 := Aside0.mk (Kit.bb BK179.out hb)
            replace HB := Aside0.mk (below_step Kit.bl hb)
            (try clear hb)
            (try clear hb2)
            (try clear hk)
            (try clear hi)
            (try clear ho0)
            obtain ⟨Ao72, co72, eo72⟩ := Kd.S_slice HO184.out
            (first | subst eo72 | (injection eo72 with f1_ f2_ f3_; have f4_ := f1_.symm; have f5_ := f3_.symm; clear f1_ f2_ f3_; subst f4_; subst f5_))
            obtain ⟨Ao73, co73, eo73⟩ := Kd.S_slice HO187.out
            (first | subst eo73 | (injection eo73 with f1_ f2_ f3_; have f4_ := f1_.symm; have f5_ := f3_.symm; clear f1_ f2_ f3_; subst f4_; subst f5_))
            refine hK.out _ _ ⟨(blk_cell BK178.out 0).trans rfl, (blk_cell BK179.out 0).trans rfl⟩ (fun hHeld => ?_)
            clear hK K
            refine norm_ (a' := ?_) ?_ ?_
            rotate_left
            · show Act.put _ (some 23) _ = _
              simp only [Act.put, List.setIfInBounds_toArray, List.set_cons_zero, List.set_cons_succ, i64_w, i32_w]
              rfl
            refine one_ (i := 4) (N := some 24) #[true, true, true, true, true, false] rfl rfl (by kernel_rfl) (by decide) (fun K hK => ?_)
            refine goes_ Try.func40 (by kernel_rfl) rfl #[.agg #[.slice Ao72 t182.length co72], .agg #[.slice Ao73 t185.length co73]] (by rfl) rfl rfl Kit.am ?_
            with_reducible refine (spec_SameOrigin.calls k _ _ t182 _ _ t185 t188 _ ?side1 ?side2 ?side3 ?side4 A21.out).mono ?_
            (case side1 => exact Kit.cx ((Kd.S_reads' HO184.out).2.2))
            (case side2 => exact (Kd.S_reads' HO184.out).2.1)
            (case side3 => exact Kit.cx ((Kd.S_reads' HO187.out).2.2))
            (case side4 => exact (Kd.S_reads' HO187.out).2.1)
            rintro e w74 ⟨rfl, hb⟩
            refine ⟨_, rfl, ?_⟩
            replace HO184 := Aside0.mk (Kd.S_below (Kit.sx HO184.out) hb)
            replace HO187 := Aside0.mk (Kd.S_below (Kit.sx HO187.out) hb)
            replace BK178 := Aside0.mk (Kit.bb BK178.out hb)
            replace BK179 := Aside0.mk (Kit.bb BK179.out hb)
            replace HB := Aside0.mk (below_step Kit.bl hb)
            (try clear hb)
            (try clear hb2)
            (try clear hk)
            (try clear hi)
            refine hK.out _ _ ⟨(blk_cell BK178.out 0).trans rfl, (blk_cell BK179.out 0).trans rfl⟩ (fun hHeld => ?_)
            clear hK K
            refine norm_ (a' := ?_) ?_ ?_
            rotate_left
            · show Act.put _ (some 24) _ = _
              simp only [Act.put, List.setIfInBounds_toArray, List.set_cons_zero, List.set_cons_succ, i64_w, i32_w]
              rfl
            refine pure_ (i := 5) (N := some 6) (v := ?_) (a' := ?_) #[true, true, true, true, true, true] rfl rfl (by kernel_rfl) (fun _ _ _ h => h) (Or.inl ⟨by rfl, ?_⟩) ?_ ?_
            rotate_left
            · intro w'
              go_simp
              with_reducible rfl
            rotate_left
            · simp only [Act.put, List.setIfInBounds_toArray, List.set_cons_zero, List.set_cons_succ, i64_w, i32_w]
              rfl
            refine done_ (by kernel_rfl) ?_
            obtain ⟨hcz75_0, hfz75_0⟩ := Kit.c1 BK178.out
            try go_wp2_with (first | ((with_reducible refine gate_callee (f := 28) rfl ?_); refine goesL_ (some 26) rfl rfl Try.func28 (by kernel_rfl) rfl #[.agg #[.slice A0_0 l0_0.length c0_0]] rfl Kit.am ?_; (with_reducible refine (laws_toOrigin.calls k _ _ l0_0 t189 _ ?side1 ?side2 A22.out).mono ?_); (case side1 => exact Kit.cx ((Kd.C_below HR0_0.out HB.out))); (case side2 => exact HC0_0.out); rintro e w76 ⟨v190, rfl, ho0, hb⟩; refine ⟨_, rfl, ?_⟩; have one_v190 : (v190 : Value).oneCell' = true := Kit.ov0; have HO191 := Aside0.mk (Kd.S_lower (Kd.S_new' (Kd.S_new' ho0 (Kd.S_lt (Kit.sx HO184.out))) (Kd.S_lt (Kit.sx HO187.out))) Kit.bz); replace HO184 := Aside0.mk (Kd.S_elder' (Kit.sx HO184.out) (Kd.S_base ho0) hb); replace HO187 := Aside0.mk (Kd.S_elder' (Kit.sx HO187.out) (Kd.S_base ho0) hb); replace BK178 := Aside0.mk (Kit.bb BK178.out hb); replace BK179 := Aside0.mk (Kit.bb BK179.out hb); replace HB := Aside0.mk (below_step Kit.bl hb); (try clear hb); (try clear hb2); (try clear hk); (try clear hi); (try clear ho0)) | ((with_reducible refine gate_dst (N := 7) rfl ?_); refine box_event ?hg (N := 7) ?hd (cs := #[.slice none 0 0]) (t := 38) ?hr ?_; (case hd => rfl); (case hg => rfl); (case hr => exact Kit.hr); intro gb192 hg w77 hbox hb; replace HO184 := Aside0.mk (Kd.S_below (Kit.sx HO184.out) hb); replace HO187 := Aside0.mk (Kd.S_below (Kit.sx HO187.out) hb); replace HO191 := Aside0.mk (Kd.S_below (Kit.sx HO191.out) hb); have BK192 := Aside0.mk (hbox); have GW192 := Aside0.mk (Kit.gx (w := w) hg); have GE192 := Aside0.mk (Kit.gx (w := w) hg); replace HB := Aside0.mk (below_step Kit.bl hb); have NB178_192 := Aside0.mk (Kit.nlt hg BK178.out); have NB192_178 := Aside0.mk (Kit.ngt hg BK178.out); replace BK178 := Aside0.mk (Kit.bb BK178.out hb); have NB179_192 := Aside0.mk (Kit.nlt hg BK179.out); have NB192_179 := Aside0.mk (Kit.ngt hg BK179.out); replace BK179 := Aside0.mk (Kit.bb BK179.out hb); clear hb hbox hg; obtain ⟨Ao78, co78, eo78⟩ := Kd.S_slice HO191.out; subst eo78; have hnb79 := NB192_178.out; have hnc79 := NB178_192.out; have hnb80 := NB192_179.out; have hnc80 := NB179_192.out; obtain ⟨hcz81_0, hfz81_0⟩ := Kit.c1 BK192.out; obtain ⟨hcz82_0, hfz82_0⟩ := Kit.c1 BK179.out) | ((with_reducible refine gate_callee (f := 28) rfl ?_); refine goesL_ (some 28) rfl rfl Try.func28 (by kernel_rfl) rfl #[.agg #[.slice A1_0 l1_0.length c1_0]] rfl Kit.am ?_; (with_reducible refine (laws_toOrigin.calls k _ _ l1_0 t193 _ ?side1 ?side2 A23.out).mono ?_); (case side1 => exact Kd.C_below HR1_0.out Kit.bl); (case side2 => exact HC1_0.out); rintro e w83 ⟨v194, rfl, ho0, hb⟩; refine ⟨_, rfl, ?_⟩; have one_v194 : (v194 : Value).oneCell' = true := Kit.ov0; have n0_ := Aside0.mk (Kd.S_elder' (by (with_reducible repeat (first | apply Kd.S_alloc | apply Kd.S_drewN | apply Kd.S_drew)); exact (Kd.S_mono (Kd.S_far (p := ⟨gb192, 0, none⟩) (Kd.S_types HO184.out BK192.out (by decide)) (fun _ hk => hk.2) (.slice Ao78 t189.length co78)) (fun _ h_ => h_.1))) (Kd.S_base ho0) hb); have n1_ := Aside0.mk (Kd.S_elder' (by (with_reducible repeat (first | apply Kd.S_alloc | apply Kd.S_drewN | apply Kd.S_drew)); exact (Kd.S_mono (Kd.S_far (p := ⟨gb192, 0, none⟩) (Kd.S_types HO187.out BK192.out (by decide)) (fun _ hk => hk.2) (.slice Ao78 t189.length co78)) (fun _ h_ => h_.1))) (Kd.S_base ho0) hb); have n2_ := Aside0.mk (Kd.S_elder' (by (with_reducible repeat (first | apply Kd.S_alloc | apply Kd.S_drewN | apply Kd.S_drew)); exact (Kd.S_mono (Kd.S_far (p := ⟨gb192, 0, none⟩) (Kd.S_types HO191.out BK192.out (by decide)) (fun _ hk => hk.2) (.slice Ao78 t189.length co78)) (fun _ h_ => h_.1))) (Kd.S_base ho0) hb); have n3_ := Aside0.mk (Kd.S_lower (Kd.S_new' (Kd.S_new' (Kd.S_new' ho0 (Kd.S_lt (by (with_reducible repeat (first | apply Kd.S_alloc | apply Kd.S_drewN | apply Kd.S_drew)); exact (Kd.S_mono (Kd.S_far (p := ⟨gb192, 0, none⟩) (Kd.S_types HO184.out BK192.out (by decide)) (fun _ hk => hk.2) (.slice Ao78 t189.length co78)) (fun _ h_ => h_.1))))) (Kd.S_lt (by (with_reducible repeat (first | apply Kd.S_alloc | apply Kd.S_drewN | apply Kd.S_drew)); exact (Kd.S_mono (Kd.S_far (p := ⟨gb192, 0, none⟩) (Kd.S_types HO187.out BK192.out (by decide)) (fun _ hk => hk.2) (.slice Ao78 t189.length co78)) (fun _ h_ => h_.1))))) (Kd.S_lt (by (with_reducible repeat (first | apply Kd.S_alloc | apply Kd.S_drewN | apply Kd.S_drew)); exact (Kd.S_mono (Kd.S_far (p := ⟨gb192, 0, none⟩) (Kd.S_types HO191.out BK192.out (by decide)) (fun _ hk => hk.2) (.slice Ao78 t189.length co78)) (fun _ h_ => h_.1))))) Kit.bz); have n4_ := Aside0.mk (Kit.bf BK178.out hb); have n5_ := Aside0.mk (Kit.bf BK179.out hb); have n6_ := Aside0.mk (blk_below (g := gb192) (o := .cells #[.slice Ao78 t189.length co78] 38 (0, 0)) (by (with_reducible repeat (first | refine blk_drewN ?_ _ | refine blk_drew ?_ | refine blk_alloc ?_ _)); refine blk_put (cs := #[.slice none 0 0]) ?_ 0 _ rfl; (with_reducible repeat (first | refine blk_drewN ?_ _ | refine blk_drew ?_ | refine blk_alloc ?_ _)); exact BK192.out) hb); have n7_ := Aside0.mk (below_step Kit.bl hb); clear HO184; clear HO187; clear HO191; clear BK178; clear BK179; clear BK192; clear HB; have HO184 := n0_; have HO187 := n1_; have HO191 := n2_; have HO195 := n3_; have BK178 := n4_; have BK179 := n5_; have BK192 := n6_; have HB := n7_; clear n0_ n1_ n2_ n3_ n4_ n5_ n6_ n7_; (try clear hb); (try clear hb2); (try clear hk); (try clear hi); (try clear ho0)) | ((with_reducible refine gate_dst (N := 8) rfl ?_); refine box_event ?hg (N := 8) ?hd (cs := #[.slice none 0 0]) (t := 38) ?hr ?_; (case hd => rfl); (case hg => rfl); (case hr => exact Kit.hr); intro gb196 hg w84 hbox hb; replace HO184 := Aside0.mk (Kd.S_below (Kit.sx HO184.out) hb); replace HO187 := Aside0.mk (Kd.S_below (Kit.sx HO187.out) hb); replace HO191 := Aside0.mk (Kd.S_below (Kit.sx HO191.out) hb); replace HO195 := Aside0.mk (Kd.S_below (Kit.sx HO195.out) hb); have BK196 := Aside0.mk (hbox); have GW196 := Aside0.mk (Kit.gx (w := w) hg); have GE196 := Aside0.mk (Kit.gx (w := w) hg); replace HB := Aside0.mk (below_step Kit.bl hb); have NB178_196 := Aside0.mk (Kit.nlt hg BK178.out); have NB196_178 := Aside0.mk (Kit.ngt hg BK178.out); replace BK178 := Aside0.mk (Kit.bb BK178.out hb); have NB179_196 := Aside0.mk (Kit.nlt hg BK179.out); have NB196_179 := Aside0.mk (Kit.ngt hg BK179.out); replace BK179 := Aside0.mk (Kit.bb BK179.out hb); have NB192_196 := Aside0.mk (Kit.nlt hg BK192.out); have NB196_192 := Aside0.mk (Kit.ngt hg BK192.out); replace BK192 := Aside0.mk (Kit.bb BK192.out hb); clear hb hbox hg; obtain ⟨Ao85, co85, eo85⟩ := Kd.S_slice HO195.out; subst eo85; have hnb86 := NB196_178.out; have hnc86 := NB178_196.out; have hnb87 := NB196_179.out; have hnc87 := NB179_196.out; have hnb88 := NB196_192.out; have hnc88 := NB192_196.out; obtain ⟨hcz89_0, hfz89_0⟩ := Kit.c1 BK196.out; obtain ⟨hcz90_0, hfz90_0⟩ := Kit.c1 BK192.out) | ((with_reducible refine gate_callee (f := 41) rfl ?_); refine goesL_ (some 31) rfl rfl Try.func41 (by kernel_rfl) rfl #[.agg #[.slice Ao78 t189.length co78], .agg #[.slice Ao85 t193.length co85]] rfl Kit.am ?_; (with_reducible refine (impl_SameOrigin.calls k _ _ t189 _ _ t193 t197 _ ?side1 ?side2 ?side3 ?side4 A24.out).mono ?_); (case side1 => refine (Kd.S_reads' (e := 71) (base := w.heap.size) (ok := fun k_ => (((True ∧ some k_ ≠ (.slice Ao72 t182.length co72 : Value).ownBlock) ∧ some k_ ≠ (.slice Ao73 t185.length co73 : Value).ownBlock) ∧ some k_ ≠ (.slice Ao85 t193.length co85 : Value).ownBlock)) (n := t189.length) (c := co78) ?_).2.2; exact (by (with_reducible repeat (first | apply Kd.S_alloc | apply Kd.S_drewN | apply Kd.S_drew)); exact (Kd.S_mono (Kd.S_far (p := ⟨gb196, 0, none⟩) (Kd.S_types HO191.out BK196.out (by decide)) (fun _ hk => hk.2) (.slice Ao85 t193.length co85)) (fun _ h_ => h_.1)))); (case side2 => exact (Kd.S_reads' HO191.out).2.1); (case side3 => refine (Kd.S_reads' (e := 71) (base := w.heap.size) (ok := fun k_ => (((True ∧ some k_ ≠ (.slice Ao72 t182.length co72 : Value).ownBlock) ∧ some k_ ≠ (.slice Ao73 t185.length co73 : Value).ownBlock) ∧ some k_ ≠ (.slice Ao78 t189.length co78 : Value).ownBlock)) (n := t193.length) (c := co85) ?_).2.2; exact (by (with_reducible repeat (first | apply Kd.S_alloc | apply Kd.S_drewN | apply Kd.S_drew)); exact (Kd.S_mono (Kd.S_far (p := ⟨gb196, 0, none⟩) (Kd.S_types HO195.out BK196.out (by decide)) (fun _ hk => hk.2) (.slice Ao85 t193.length co85)) (fun _ h_ => h_.1)))); (case side4 => exact (Kd.S_reads' HO195.out).2.1); rintro e w91 ⟨rfl, hb⟩; refine ⟨_, rfl, ?_⟩; have n0_ := Aside0.mk (Kd.S_below (by (with_reducible repeat (first | apply Kd.S_alloc | apply Kd.S_drewN | apply Kd.S_drew)); exact (Kd.S_mono (Kd.S_far (p := ⟨gb196, 0, none⟩) (Kd.S_types HO184.out BK196.out (by decide)) (fun _ hk => hk.2) (.slice Ao85 t193.length co85)) (fun _ h_ => h_.1))) hb); have n1_ := Aside0.mk (Kd.S_below (by (with_reducible repeat (first | apply Kd.S_alloc | apply Kd.S_drewN | apply Kd.S_drew)); exact (Kd.S_mono (Kd.S_far (p := ⟨gb196, 0, none⟩) (Kd.S_types HO187.out BK196.out (by decide)) (fun _ hk => hk.2) (.slice Ao85 t193.length co85)) (fun _ h_ => h_.1))) hb); have n2_ := Aside0.mk (Kd.S_below (by (with_reducible repeat (first | apply Kd.S_alloc | apply Kd.S_drewN | apply Kd.S_drew)); exact (Kd.S_mono (Kd.S_far (p := ⟨gb196, 0, none⟩) (Kd.S_types HO191.out BK196.out (by decide)) (fun _ hk => hk.2) (.slice Ao85 t193.length co85)) (fun _ h_ => h_.1))) hb); have n3_ := Aside0.mk (Kd.S_below (by (with_reducible repeat (first | apply Kd.S_alloc | apply Kd.S_drewN | apply Kd.S_drew)); exact (Kd.S_mono (Kd.S_far (p := ⟨gb196, 0, none⟩) (Kd.S_types HO195.out BK196.out (by decide)) (fun _ hk => hk.2) (.slice Ao85 t193.length co85)) (fun _ h_ => h_.1))) hb); have n4_ := Aside0.mk (Kit.bf BK178.out hb); have n5_ := Aside0.mk (Kit.bf BK179.out hb); have n6_ := Aside0.mk (Kit.bf BK192.out hb); have n7_ := Aside0.mk (blk_below (g := gb196) (o := .cells #[.slice Ao85 t193.length co85] 38 (0, 0)) (by (with_reducible repeat (first | refine blk_drewN ?_ _ | refine blk_drew ?_ | refine blk_alloc ?_ _)); refine blk_put (cs := #[.slice none 0 0]) ?_ 0 _ rfl; (with_reducible repeat (first | refine blk_drewN ?_ _ | refine blk_drew ?_ | refine blk_alloc ?_ _)); exact BK196.out) hb); have n8_ := Aside0.mk (below_step Kit.bl hb); clear HO184; clear HO187; clear HO191; clear HO195; clear BK178; clear BK179; clear BK192; clear BK196; clear HB; have HO184 := n0_; have HO187 := n1_; have HO191 := n2_; have HO195 := n3_; have BK178 := n4_; have BK179 := n5_; have BK192 := n6_; have BK196 := n7_; have HB := n8_; clear n0_ n1_ n2_ n3_ n4_ n5_ n6_ n7_ n8_; (try clear hb); (try clear hb2); (try clear hk); (try clear hi)))
            have n0_ := Aside0.mk (Kd.S_drew HO184.out)
            have n1_ := Aside0.mk (Kd.S_drew HO187.out)
            have n2_ := Aside0.mk (Kd.S_drew HO191.out)
            have n3_ := Aside0.mk (Kd.S_drew HO195.out)
            have n4_ := Aside0.mk (blk_drew BK178.out)
            have n5_ := Aside0.mk (blk_drew BK179.out)
            have n6_ := Aside0.mk (blk_drew BK192.out)
            have n7_ := Aside0.mk (blk_drew BK196.out)
            have n8_ := Aside0.mk (below_drew1 HB.out)
            clear HO184
            clear HO187
            clear HO191
            clear HO195
            clear BK178
            clear BK179
            clear BK192
            clear BK196
            clear HB
            have HO184 := n0_
            have HO187 := n1_
            have HO191 := n2_
            have HO195 := n3_
            have BK178 := n4_
            have BK179 := n5_
            have BK192 := n6_
            have BK196 := n7_
            have HB := n8_
            clear n0_ n1_ n2_ n3_ n4_ n5_ n6_ n7_ n8_
            refine start_ (n := 5) (S := fun w' => w'.cell? ⟨gb192, 0, none⟩ = some (.slice Ao78 t189.length co78) ∧ w'.cell? ⟨gb178, 0, none⟩ = some (.slice A0_0 l0_0.length c0_0)) (ds := []) #[false, false, false, false, false] (by kernel_rfl) rfl rfl ⟨(blk_cell BK192.out 0).trans rfl, (blk_cell BK178.out 0).trans rfl⟩ (fun hHeld => ?_)
            generalize w91.drew = w92 at HO184 HO187 HO191 HO195 BK178 BK179 BK192 BK196 HB hHeld ⊢
            refine take_ (i := 0) (N := some 35) (v := ?_) (a' := ?_) #[true, false, false, false, false] rfl rfl (by kernel_rfl) (fun _ _ _ h => h) (Or.inl ⟨by rfl, ?_⟩) hHeld ?_ ?_
            rotate_left
            · rintro w' ⟨s0, s1⟩
              go_simp
              with_reducible rfl
            rotate_left
            · simp only [Act.put, List.setIfInBounds_toArray, List.set_cons_zero, List.set_cons_succ, i64_w, i32_w]
              rfl
            refine take_ (i := 1) (N := some 36) (v := ?_) (a' := ?_) #[true, true, false, false, false] rfl rfl (by kernel_rfl) (fun _ _ _ h => h) (Or.inl ⟨by rfl, ?_⟩) hHeld ?_ ?_
            rotate_left
            · rintro w' ⟨s0, s1⟩
              go_simp
              with_reducible rfl
            rotate_left
            · simp only [Act.put, List.setIfInBounds_toArray, List.set_cons_zero, List.set_cons_succ, i64_w, i32_w]
              rfl
            refine one_ (i := 2) (N := some 37) #[true, true, true, false, false] rfl rfl (by kernel_rfl) (by decide) (fun K hK => ?_)
            refine goes_ Try.func28 (by kernel_rfl) rfl #[.agg #[.slice A0_0 l0_0.length c0_0]] (by rfl) rfl rfl Kit.am ?_
            with_reducible refine (laws_toOrigin.calls k _ _ l0_0 t198 _ ?side1 ?side2 A56.out).mono ?_
            (case side1 => exact Kit.cx ((Kd.C_below HR0_0.out HB.out)))
            (case side2 => exact HC0_0.out)
            rintro e w93 ⟨v199, rfl, ho0, hb⟩
            refine ⟨_, rfl, ?_⟩
            have HO200 := Aside0.mk (Kd.S_lower (Kd.S_new' (Kd.S_new' (Kd.S_new' (Kd.S_new' ho0 (Kd.S_lt (Kit.sx HO184.out))) (Kd.S_lt (Kit.sx HO187.out))) (Kd.S_lt (Kit.sx HO191.out))) (Kd.S_lt (Kit.sx HO195.out))) Kit.bz)
            replace HO184 := Aside0.mk (Kd.S_elder' (Kit.sx HO184.out) (Kd.S_base ho0) hb)
            replace HO187 := Aside0.mk (Kd.S_elder' (Kit.sx HO187.out) (Kd.S_base ho0) hb)
            replace HO191 := Aside0.mk (Kd.S_elder' (Kit.sx HO191.out) (Kd.S_base ho0) hb)
            replace HO195 := Aside0.mk (Kd.S_elder' (Kit.sx HO195.out) (Kd.S_base ho0) hb)
            replace BK178 := Aside0.mk (Kit.bb BK178.out hb)
            replace BK179 := Aside0.mk (Kit.bb BK179.out hb)
            replace BK192 := Aside0.mk (Kit.bb BK192.out hb)
            replace BK196 := Aside0.mk (Kit.bb BK196.out hb)
            replace HB := Aside0.mk (below_step Kit.bl hb)
            (try clear hb)
            (try clear hb2)
            (try clear hk)
            (try clear hi)
            (try clear ho0)
            obtain ⟨Ao94, co94, eo94⟩ := Kd.S_slice HO200.out
            (first | subst eo94 | (injection eo94 with f1_ f2_ f3_; have f4_ := f1_.symm; have f5_ := f3_.symm; clear f1_ f2_ f3_; subst f4_; subst f5_))
            refine hK.out _ _ ⟨(blk_cell BK192.out 0).trans rfl, (blk_cell BK178.out 0).trans rfl⟩ (fun hHeld => ?_)
            clear hK K
            refine norm_ (a' := ?_) ?_ ?_
            rotate_left
            · show Act.put _ (some 37) _ = _
              simp only [Act.put, List.setIfInBounds_toArray, List.set_cons_zero, List.set_cons_succ, i64_w, i32_w]
              rfl
            refine one_ (i := 3) (N := some 38) #[true, true, true, true, false] rfl rfl (by kernel_rfl) (by decide) (fun K hK => ?_)
            refine goes_ Try.func30 (by kernel_rfl) rfl #[.agg #[.slice Ao78 t189.length co78], .agg #[.slice Ao94 t198.length co94]] (by rfl) rfl rfl Kit.am ?_
            with_reducible refine (laws_eqOrigin.calls k _ _ t189 _ _ t198 true _ ?side1 ?side2 ?side3 ?side4 A57.out).mono ?_
            (case side1 => exact Kit.cx ((Kd.S_reads' HO191.out).2.2))
            (case side2 => exact (Kd.S_reads' HO191.out).2.1)
            (case side3 => exact Kit.cx ((Kd.S_reads' HO200.out).2.2))
            (case side4 => exact (Kd.S_reads' HO200.out).2.1)
            rintro e w95 ⟨rfl, hb⟩
            refine ⟨_, rfl, ?_⟩
            replace HO184 := Aside0.mk (Kd.S_below (Kit.sx HO184.out) hb)
            replace HO187 := Aside0.mk (Kd.S_below (Kit.sx HO187.out) hb)
            replace HO191 := Aside0.mk (Kd.S_below (Kit.sx HO191.out) hb)
            replace HO195 := Aside0.mk (Kd.S_below (Kit.sx HO195.out) hb)
            replace HO200 := Aside0.mk (Kd.S_below (Kit.sx HO200.out) hb)
            replace BK178 := Aside0.mk (Kit.bb BK178.out hb)
            replace BK179 := Aside0.mk (Kit.bb BK179.out hb)
            replace BK192 := Aside0.mk (Kit.bb BK192.out hb)
            replace BK196 := Aside0.mk (Kit.bb BK196.out hb)
            replace HB := Aside0.mk (below_step Kit.bl hb)
            (try clear hb)
            (try clear hb2)
            (try clear hk)
            (try clear hi)
            refine hK.out _ _ ⟨(blk_cell BK192.out 0).trans rfl, (blk_cell BK178.out 0).trans rfl⟩ (fun hHeld => ?_)
            clear hK K
            refine norm_ (a' := ?_) ?_ ?_
            rotate_left
            · show Act.put _ (some 38) _ = _
              simp only [Act.put, List.setIfInBounds_toArray, List.set_cons_zero, List.set_cons_succ, i64_w, i32_w]
              rfl
            refine pure_ (i := 4) (N := some 39) (v := ?_) (a' := ?_) #[true, true, true, true, true] rfl rfl (by kernel_rfl) (fun _ _ _ h => h) (Or.inl ⟨by rfl, ?_⟩) ?_ ?_
            rotate_left
            · intro w'
              go_simp
              with_reducible rfl
            rotate_left
            · simp only [Act.put, List.setIfInBounds_toArray, List.set_cons_zero, List.set_cons_succ, i64_w, i32_w]
              rfl
            refine done_ (by kernel_rfl) ?_
            try go_wp2
            replace HO184 := Aside0.mk (Kd.S_drew HO184.out)
            replace HO187 := Aside0.mk (Kd.S_drew HO187.out)
            replace HO191 := Aside0.mk (Kd.S_drew HO191.out)
            replace HO195 := Aside0.mk (Kd.S_drew HO195.out)
            replace HO200 := Aside0.mk (Kd.S_drew HO200.out)
            replace BK178 := Aside0.mk (blk_drew BK178.out)
            replace BK179 := Aside0.mk (blk_drew BK179.out)
            replace BK192 := Aside0.mk (blk_drew BK192.out)
            replace BK196 := Aside0.mk (blk_drew BK196.out)
            replace HB := Aside0.mk (below_drew1 HB.out)
            refine start_ (n := 5) (S := fun w' => w'.cell? ⟨gb196, 0, none⟩ = some (.slice Ao85 t193.length co85) ∧ w'.cell? ⟨gb179, 0, none⟩ = some (.slice A1_0 l1_0.length c1_0)) (ds := []) #[false, false, false, false, false] (by kernel_rfl) rfl rfl ⟨(blk_cell BK196.out 0).trans rfl, (blk_cell BK179.out 0).trans rfl⟩ (fun hHeld => ?_)
            generalize w95.drew = w96 at HO184 HO187 HO191 HO195 HO200 BK178 BK179 BK192 BK196 HB hHeld ⊢
            refine take_ (i := 0) (N := some 40) (v := ?_) (a' := ?_) #[true, false, false, false, false] rfl rfl (by kernel_rfl) (fun _ _ _ h => h) (Or.inl ⟨by rfl, ?_⟩) hHeld ?_ ?_
            rotate_left
            · rintro w' ⟨s0, s1⟩
              go_simp
              with_reducible rfl
            rotate_left
            · simp only [Act.put, List.setIfInBounds_toArray, List.set_cons_zero, List.set_cons_succ, i64_w, i32_w]
              rfl
            refine take_ (i := 1) (N := some 41) (v := ?_) (a' := ?_) #[true, true, false, false, false] rfl rfl (by kernel_rfl) (fun _ _ _ h => h) (Or.inl ⟨by rfl, ?_⟩) hHeld ?_ ?_
            rotate_left
            · rintro w' ⟨s0, s1⟩
              go_simp
              with_reducible rfl
            rotate_left
            · simp only [Act.put, List.setIfInBounds_toArray, List.set_cons_zero, List.set_cons_succ, i64_w, i32_w]
              rfl
            refine one_ (i := 2) (N := some 42) #[true, true, true, false, false] rfl rfl (by kernel_rfl) (by decide) (fun K hK => ?_)
            refine goes_ Try.func28 (by kernel_rfl) rfl #[.agg #[.slice A1_0 l1_0.length c1_0]] (by rfl) rfl rfl Kit.am ?_
            with_reducible refine (laws_toOrigin.calls k _ _ l1_0 t202 _ ?side1 ?side2 A59.out).mono ?_
            (case side1 => exact Kit.cx ((Kd.C_below HR1_0.out HB.out)))
            (case side2 => exact HC1_0.out)
            rintro e w97 ⟨v203, rfl, ho0, hb⟩
            refine ⟨_, rfl, ?_⟩
            have HO204 := Aside0.mk (Kd.S_lower (Kd.S_new' (Kd.S_new' (Kd.S_new' (Kd.S_new' (Kd.S_new' ho0 (Kd.S_lt (Kit.sx HO184.out))) (Kd.S_lt (Kit.sx HO187.out))) (Kd.S_lt (Kit.sx HO191.out))) (Kd.S_lt (Kit.sx HO195.out))) (Kd.S_lt (Kit.sx HO200.out))) Kit.bz)
            replace HO184 := Aside0.mk (Kd.S_elder' (Kit.sx HO184.out) (Kd.S_base ho0) hb)
            replace HO187 := Aside0.mk (Kd.S_elder' (Kit.sx HO187.out) (Kd.S_base ho0) hb)
            replace HO191 := Aside0.mk (Kd.S_elder' (Kit.sx HO191.out) (Kd.S_base ho0) hb)
            replace HO195 := Aside0.mk (Kd.S_elder' (Kit.sx HO195.out) (Kd.S_base ho0) hb)
            replace HO200 := Aside0.mk (Kd.S_elder' (Kit.sx HO200.out) (Kd.S_base ho0) hb)
            replace BK178 := Aside0.mk (Kit.bb BK178.out hb)
            replace BK179 := Aside0.mk (Kit.bb BK179.out hb)
            replace BK192 := Aside0.mk (Kit.bb BK192.out hb)
            replace BK196 := Aside0.mk (Kit.bb BK196.out hb)
            replace HB := Aside0.mk (below_step Kit.bl hb)
            (try clear hb)
            (try clear hb2)
            (try clear hk)
            (try clear hi)
            (try clear ho0)
            obtain ⟨Ao98, co98, eo98⟩ := Kd.S_slice HO204.out
            (first | subst eo98 | (injection eo98 with f1_ f2_ f3_; have f4_ := f1_.symm; have f5_ := f3_.symm; clear f1_ f2_ f3_; subst f4_; subst f5_))
            refine hK.out _ _ ⟨(blk_cell BK196.out 0).trans rfl, (blk_cell BK179.out 0).trans rfl⟩ (fun hHeld => ?_)
            clear hK K
            refine norm_ (a' := ?_) ?_ ?_
            rotate_left
            · show Act.put _ (some 42) _ = _
              simp only [Act.put, List.setIfInBounds_toArray, List.set_cons_zero, List.set_cons_succ, i64_w, i32_w]
              rfl
            refine one_ (i := 3) (N := some 43) #[true, true, true, true, false] rfl rfl (by kernel_rfl) (by decide) (fun K hK => ?_)
            refine goes_ Try.func30 (by kernel_rfl) rfl #[.agg #[.slice Ao85 t193.length co85], .agg #[.slice Ao98 t202.length co98]] (by rfl) rfl rfl Kit.am ?_
            with_reducible refine (laws_eqOrigin.calls k _ _ t193 _ _ t202 true _ ?side1 ?side2 ?side3 ?side4 A60.out).mono ?_
            (case side1 => exact Kit.cx ((Kd.S_reads' HO195.out).2.2))
            (case side2 => exact (Kd.S_reads' HO195.out).2.1)
            (case side3 => exact Kit.cx ((Kd.S_reads' HO204.out).2.2))
            (case side4 => exact (Kd.S_reads' HO204.out).2.1)
            rintro e w99 ⟨rfl, hb⟩
            refine ⟨_, rfl, ?_⟩
            replace HO184 := Aside0.mk (Kd.S_below (Kit.sx HO184.out) hb)
            replace HO187 := Aside0.mk (Kd.S_below (Kit.sx HO187.out) hb)
            replace HO191 := Aside0.mk (Kd.S_below (Kit.sx HO191.out) hb)
            replace HO195 := Aside0.mk (Kd.S_below (Kit.sx HO195.out) hb)
            replace HO200 := Aside0.mk (Kd.S_below (Kit.sx HO200.out) hb)
            replace HO204 := Aside0.mk (Kd.S_below (Kit.sx HO204.out) hb)
            replace BK178 := Aside0.mk (Kit.bb BK178.out hb)
            replace BK179 := Aside0.mk (Kit.bb BK179.out hb)
            replace BK192 := Aside0.mk (Kit.bb BK192.out hb)
            replace BK196 := Aside0.mk (Kit.bb BK196.out hb)
            replace HB := Aside0.mk (below_step Kit.bl hb)
            (try clear hb)
            (try clear hb2)
            (try clear hk)
            (try clear hi)
            refine hK.out _ _ ⟨(blk_cell BK196.out 0).trans rfl, (blk_cell BK179.out 0).trans rfl⟩ (fun hHeld => ?_)
            clear hK K
            refine norm_ (a' := ?_) ?_ ?_
            rotate_left
            · show Act.put _ (some 43) _ = _
              simp only [Act.put, List.setIfInBounds_toArray, List.set_cons_zero, List.set_cons_succ, i64_w, i32_w]
              rfl
            refine pure_ (i := 4) (N := some 44) (v := ?_) (a' := ?_) #[true, true, true, true, true] rfl rfl (by kernel_rfl) (fun _ _ _ h => h) (Or.inl ⟨by rfl, ?_⟩) ?_ ?_
            rotate_left
            · intro w'
              go_simp
              with_reducible rfl
            rotate_left
            · simp only [Act.put, List.setIfInBounds_toArray, List.set_cons_zero, List.set_cons_succ, i64_w, i32_w]
              rfl
            refine done_ (by kernel_rfl) ?_
            try go_wp2
            go_ret
            exact ⟨Kit.er, Kit.bl⟩
          · replace c61 := Bool.eq_false_iff.mpr c61
            subst c61
            have H1 : (some false) = some r := by rw [if_neg (show ¬ (false = true) by decide)] at H; exact H
            clear H
            have H := H1
            clear H1
            obtain rfl := Option.some.inj H
            go_enter Try.func11, Try.ntmps11
            try go_wp2_with (first | ((with_reducible refine gate_dst (N := 2) rfl ?_); refine box_event ?hg (N := 2) ?hd (cs := #[.slice A0_0 l0_0.length c0_0]) (t := 33) ?hr ?_; (case hd => rfl); (case hg => rfl); (case hr => exact Kit.hr); intro gb178 hg w100 hbox hb; have BK178 := Aside0.mk (hbox); have GW178 := Aside0.mk (Kit.gx (w := w) hg); have GE178 := Aside0.mk (Kit.gx (w := w) hg); replace HB := Aside0.mk (below_step Kit.bl hb); clear hb hbox hg) | ((with_reducible refine gate_dst (N := 3) rfl ?_); refine box_event ?hg (N := 3) ?hd (cs := #[.slice A1_0 l1_0.length c1_0]) (t := 33) ?hr ?_; (case hd => rfl); (case hg => rfl); (case hr => exact Kit.hr); intro gb179 hg w101 hbox hb; have BK179 := Aside0.mk (hbox); have GW179 := Aside0.mk (Kit.gx (w := w) hg); have GE179 := Aside0.mk (Kit.gx (w := w) hg); replace HB := Aside0.mk (below_step Kit.bl hb); have NB178_179 := Aside0.mk (Kit.nlt hg BK178.out); have NB179_178 := Aside0.mk (Kit.ngt hg BK178.out); replace BK178 := Aside0.mk (Kit.bb BK178.out hb); clear hb hbox hg; have hnb102 := NB178_179.out; have hnc102 := NB179_178.out; obtain ⟨hcz103_0, hfz103_0⟩ := Kit.c1 BK178.out) | ((with_reducible refine gate_callee (f := 26) rfl ?_); refine goesL_ (some 12) rfl rfl Try.func26 (by kernel_rfl) rfl #[.agg #[.slice A0_0 l0_0.length c0_0], .int .i64 1048576] rfl Kit.am ?_; (with_reducible refine (laws_szOrigin.calls k _ _ l0_0 1048576 t180 _ ?side1 ?side2 A3.out).mono ?_); (case side1 => exact Kit.cx ((Kd.C_below HR0_0.out HB.out))); (case side2 => exact HC0_0.out); rintro e w104 ⟨rfl, hb⟩; refine ⟨_, rfl, ?_⟩; replace BK178 := Aside0.mk (Kit.bb BK178.out hb); replace BK179 := Aside0.mk (Kit.bb BK179.out hb); replace HB := Aside0.mk (below_step Kit.bl hb); (try clear hb); (try clear hb2); (try clear hk); (try clear hi); obtain ⟨hcz105_0, hfz105_0⟩ := Kit.c1 BK179.out) | ((with_reducible refine gate_callee (f := 26) rfl ?_); refine goesL_ (some 17) rfl rfl Try.func26 (by kernel_rfl) rfl #[.agg #[.slice A1_0 l1_0.length c1_0], .int .i64 t180] rfl Kit.am ?_; (with_reducible refine (laws_szOrigin.calls k _ _ l1_0 t180 t181 _ ?side1 ?side2 A10.out).mono ?_); (case side1 => exact Kit.cx ((Kd.C_below HR1_0.out HB.out))); (case side2 => exact HC1_0.out); rintro e w106 ⟨rfl, hb⟩; refine ⟨_, rfl, ?_⟩; replace BK178 := Aside0.mk (Kit.bb BK178.out hb); replace BK179 := Aside0.mk (Kit.bb BK179.out hb); replace HB := Aside0.mk (below_step Kit.bl hb); (try clear hb); (try clear hb2); (try clear hk); (try clear hi)))
            replace BK178 := Aside0.mk (blk_drew BK178.out)
            replace BK179 := Aside0.mk (blk_drew BK179.out)
            replace HB := Aside0.mk (below_drew1 HB.out)
            refine start_ (n := 6) (S := fun w' => w'.cell? ⟨gb178, 0, none⟩ = some (.slice A0_0 l0_0.length c0_0) ∧ w'.cell? ⟨gb179, 0, none⟩ = some (.slice A1_0 l1_0.length c1_0)) (ds := []) #[false, false, false, false, false, false] (by kernel_rfl) rfl rfl ⟨(blk_cell BK178.out 0).trans rfl, (blk_cell BK179.out 0).trans rfl⟩ (fun hHeld => ?_)
            generalize w106.drew = w107 at BK178 BK179 HB hHeld ⊢
            refine take_ (i := 0) (N := some 20) (v := ?_) (a' := ?_) #[true, false, false, false, false, false] rfl rfl (by kernel_rfl) (fun _ _ _ h => h) (Or.inl ⟨by rfl, ?_⟩) hHeld ?_ ?_
            rotate_left
            · rintro w' ⟨s0, s1⟩
              go_simp
              with_reducible rfl
            rotate_left
            · simp only [Act.put, List.setIfInBounds_toArray, List.set_cons_zero, List.set_cons_succ, i64_w, i32_w]
              rfl
            refine take_ (i := 2) (N := some 22) (v := ?_) (a' := ?_) #[true, false, true, false, false, false] rfl rfl (by kernel_rfl) (fun _ _ _ h => h) (Or.inl ⟨by rfl, ?_⟩) hHeld ?_ ?_
            rotate_left
            · rintro w' ⟨s0, s1⟩
              go_simp
              with_reducible rfl
            rotate_left
            · simp only [Act.put, List.setIfInBounds_toArray, List.set_cons_zero, List.set_cons_succ, i64_w, i32_w]
              rfl
            refine one_ (i := 1) (N := some 21) #[true, true, true, false, false, false] rfl rfl (by kernel_rfl) (by decide) (fun K hK => ?_)
            refine goes_ Try.func28 (by kernel_rfl) rfl #[.agg #[.slice A0_0 l0_0.length c0_0]] (by rfl) rfl rfl Kit.am ?_
            with_reducible refine (laws_toOrigin.calls k _ _ l0_0 t182 _ ?side1 ?side2 A19.out).mono ?_
            (case side1 => exact Kit.cx ((Kd.C_below HR0_0.out HB.out)))
            (case side2 => exact HC0_0.out)
            rintro e w108 ⟨v183, rfl, ho0, hb⟩
            refine ⟨_, rfl, ?_⟩
            have HO184 := Aside0.mk (Kd.S_lower ho0 Kit.bz)
            replace BK178 := Aside0.mk (Kit.bb BK178.out hb)
            replace BK179 := Aside0.mk (Kit.bb BK179.out hb)
            replace HB := Aside0.mk (below_step Kit.bl hb)
            (try clear hb)
            (try clear hb2)
            (try clear hk)
            (try clear hi)
            (try clear ho0)
            refine hK.out _ _ ⟨(blk_cell BK178.out 0).trans rfl, (blk_cell BK179.out 0).trans rfl⟩ (fun hHeld => ?_)
            clear hK K
            refine norm_ (a' := ?_) ?_ ?_
            rotate_left
            · show Act.put _ (some 21) _ = _
              simp only [Act.put, List.setIfInBounds_toArray, List.set_cons_zero, List.set_cons_succ, i64_w, i32_w]
              rfl
            refine one_ (i := 3) (N := some 23) #[true, true, true, true, false, false] rfl rfl (by kernel_rfl) (by decide) (fun K hK => ?_)
            refine goes_ Try.func28 (by kernel_rfl) rfl #[.agg #[.slice A1_0 l1_0.length c1_0]] (by rfl) rfl rfl Kit.am ?_
            with_reducible refine (laws_toOrigin.calls k _ _ l1_0 t185 _ ?side1 ?side2 A20.out).mono ?_
            (case side1 => exact Kit.cx ((Kd.C_below HR1_0.out HB.out)))
            (case side2 => exact HC1_0.out)
            rintro e w109 ⟨v186, rfl, ho0, hb⟩
            refine ⟨_, rfl, ?_⟩
            have HO187 := Aside0.mk (Kd.S_lower (Kd.S_new' ho0 (Kd.S_lt (Kit.sx HO184.out))) Kit.bz)
            replace HO184 := Aside0.mk (Kd.S_elder' (Kit.sx HO184.out) (Kd.S_base ho0) hb)
            replace BK178 := Aside0.mk (Kit.bb BK178.out hb)
            replace BK179 := Aside0.mk (Kit.bb BK179.out hb)
            replace HB := Aside0.mk (below_step Kit.bl hb)
            (try clear hb)
            (try clear hb2)
            (try clear hk)
            (try clear hi)
            (try clear ho0)
            obtain ⟨Ao110, co110, eo110⟩ := Kd.S_slice HO184.out
            (first | subst eo110 | (injection eo110 with f1_ f2_ f3_; have f4_ := f1_.symm; have f5_ := f3_.symm; clear f1_ f2_ f3_; subst f4_; subst f5_))
            obtain ⟨Ao111, co111, eo111⟩ := Kd.S_slice HO187.out
            (first | subst eo111 | (injection eo111 with f1_ f2_ f3_; have f4_ := f1_.symm; have f5_ := f3_.symm; clear f1_ f2_ f3_; subst f4_; subst f5_))
            refine hK.out _ _ ⟨(blk_cell BK178.out 0).trans rfl, (blk_cell BK179.out 0).trans rfl⟩ (fun hHeld => ?_)
            clear hK K
            refine norm_ (a' := ?_) ?_ ?_
            rotate_left
            · show Act.put _ (some 23) _ = _
              simp only [Act.put, List.setIfInBounds_toArray, List.set_cons_zero, List.set_cons_succ, i64_w, i32_w]
              rfl
            refine one_ (i := 4) (N := some 24) #[true, true, true, true, true, false] rfl rfl (by kernel_rfl) (by decide) (fun K hK => ?_)
            refine goes_ Try.func40 (by kernel_rfl) rfl #[.agg #[.slice Ao110 t182.length co110], .agg #[.slice Ao111 t185.length co111]] (by rfl) rfl rfl Kit.am ?_
            with_reducible refine (spec_SameOrigin.calls k _ _ t182 _ _ t185 t188 _ ?side1 ?side2 ?side3 ?side4 A21.out).mono ?_
            (case side1 => exact Kit.cx ((Kd.S_reads' HO184.out).2.2))
            (case side2 => exact (Kd.S_reads' HO184.out).2.1)
            (case side3 => exact Kit.cx ((Kd.S_reads' HO187.out).2.2))
            (case side4 => exact (Kd.S_reads' HO187.out).2.1)
            rintro e w112 ⟨rfl, hb⟩
            refine ⟨_, rfl, ?_⟩
            replace HO184 := Aside0.mk (Kd.S_below (Kit.sx HO184.out) hb)
            replace HO187 := Aside0.mk (Kd.S_below (Kit.sx HO187.out) hb)
            replace BK178 := Aside0.mk (Kit.bb BK178.out hb)
            replace BK179 := Aside0.mk (Kit.bb BK179.out hb)
            replace HB := Aside0.mk (below_step Kit.bl hb)
            (try clear hb)
            (try clear hb2)
            (try clear hk)
            (try clear hi)
            refine hK.out _ _ ⟨(blk_cell BK178.out 0).trans rfl, (blk_cell BK179.out 0).trans rfl⟩ (fun hHeld => ?_)
            clear hK K
            refine norm_ (a' := ?_) ?_ ?_
            rotate_left
            · show Act.put _ (some 24) _ = _
              simp only [Act.put, List.setIfInBounds_toArray, List.set_cons_zero, List.set_cons_succ, i64_w, i32_w]
              rfl
            refine pure_ (i := 5) (N := some 6) (v := ?_) (a' := ?_) #[true, true, true, true, true, true] rfl rfl (by kernel_rfl) (fun _ _ _ h => h) (Or.inl ⟨by rfl, ?_⟩) ?_ ?_
            rotate_left
            · intro w'
              go_simp
              with_reducible rfl
            rotate_left
            · simp only [Act.put, List.setIfInBounds_toArray, List.set_cons_zero, List.set_cons_succ, i64_w, i32_w]
              rfl
            refine done_ (by kernel_rfl) ?_
            obtain ⟨hcz113_0, hfz113_0⟩ := Kit.c1 BK178.out
            try go_wp2_with (first | ((with_reducible refine gate_callee (f := 28) rfl ?_); refine goesL_ (some 26) rfl rfl Try.func28 (by kernel_rfl) rfl #[.agg #[.slice A0_0 l0_0.length c0_0]] rfl Kit.am ?_; (with_reducible refine (laws_toOrigin.calls k _ _ l0_0 t189 _ ?side1 ?side2 A22.out).mono ?_); (case side1 => exact Kit.cx ((Kd.C_below HR0_0.out HB.out))); (case side2 => exact HC0_0.out); rintro e w114 ⟨v190, rfl, ho0, hb⟩; refine ⟨_, rfl, ?_⟩; have one_v190 : (v190 : Value).oneCell' = true := Kit.ov0; have HO191 := Aside0.mk (Kd.S_lower (Kd.S_new' (Kd.S_new' ho0 (Kd.S_lt (Kit.sx HO184.out))) (Kd.S_lt (Kit.sx HO187.out))) Kit.bz); replace HO184 := Aside0.mk (Kd.S_elder' (Kit.sx HO184.out) (Kd.S_base ho0) hb); replace HO187 := Aside0.mk (Kd.S_elder' (Kit.sx HO187.out) (Kd.S_base ho0) hb); replace BK178 := Aside0.mk (Kit.bb BK178.out hb); replace BK179 := Aside0.mk (Kit.bb BK179.out hb); replace HB := Aside0.mk (below_step Kit.bl hb); (try clear hb); (try clear hb2); (try clear hk); (try clear hi); (try clear ho0)) | ((with_reducible refine gate_dst (N := 7) rfl ?_); refine box_event ?hg (N := 7) ?hd (cs := #[.slice none 0 0]) (t := 38) ?hr ?_; (case hd => rfl); (case hg => rfl); (case hr => exact Kit.hr); intro gb192 hg w115 hbox hb; replace HO184 := Aside0.mk (Kd.S_below (Kit.sx HO184.out) hb); replace HO187 := Aside0.mk (Kd.S_below (Kit.sx HO187.out) hb); replace HO191 := Aside0.mk (Kd.S_below (Kit.sx HO191.out) hb); have BK192 := Aside0.mk (hbox); have GW192 := Aside0.mk (Kit.gx (w := w) hg); have GE192 := Aside0.mk (Kit.gx (w := w) hg); replace HB := Aside0.mk (below_step Kit.bl hb); have NB178_192 := Aside0.mk (Kit.nlt hg BK178.out); have NB192_178 := Aside0.mk (Kit.ngt hg BK178.out); replace BK178 := Aside0.mk (Kit.bb BK178.out hb); have NB179_192 := Aside0.mk (Kit.nlt hg BK179.out); have NB192_179 := Aside0.mk (Kit.ngt hg BK179.out); replace BK179 := Aside0.mk (Kit.bb BK179.out hb); clear hb hbox hg; obtain ⟨Ao116, co116, eo116⟩ := Kd.S_slice HO191.out; subst eo116; have hnb117 := NB192_178.out; have hnc117 := NB178_192.out; have hnb118 := NB192_179.out; have hnc118 := NB179_192.out; obtain ⟨hcz119_0, hfz119_0⟩ := Kit.c1 BK192.out; obtain ⟨hcz120_0, hfz120_0⟩ := Kit.c1 BK179.out) | ((with_reducible refine gate_callee (f := 28) rfl ?_); refine goesL_ (some 28) rfl rfl Try.func28 (by kernel_rfl) rfl #[.agg #[.slice A1_0 l1_0.length c1_0]] rfl Kit.am ?_; (with_reducible refine (laws_toOrigin.calls k _ _ l1_0 t193 _ ?side1 ?side2 A23.out).mono ?_); (case side1 => exact Kd.C_below HR1_0.out Kit.bl); (case side2 => exact HC1_0.out); rintro e w121 ⟨v194, rfl, ho0, hb⟩; refine ⟨_, rfl, ?_⟩; have one_v194 : (v194 : Value).oneCell' = true := Kit.ov0; have n0_ := Aside0.mk (Kd.S_elder' (by (with_reducible repeat (first | apply Kd.S_alloc | apply Kd.S_drewN | apply Kd.S_drew)); exact (Kd.S_mono (Kd.S_far (p := ⟨gb192, 0, none⟩) (Kd.S_types HO184.out BK192.out (by decide)) (fun _ hk => hk.2) (.slice Ao116 t189.length co116)) (fun _ h_ => h_.1))) (Kd.S_base ho0) hb); have n1_ := Aside0.mk (Kd.S_elder' (by (with_reducible repeat (first | apply Kd.S_alloc | apply Kd.S_drewN | apply Kd.S_drew)); exact (Kd.S_mono (Kd.S_far (p := ⟨gb192, 0, none⟩) (Kd.S_types HO187.out BK192.out (by decide)) (fun _ hk => hk.2) (.slice Ao116 t189.length co116)) (fun _ h_ => h_.1))) (Kd.S_base ho0) hb); have n2_ := Aside0.mk (Kd.S_elder' (by (with_reducible repeat (first | apply Kd.S_alloc | apply Kd.S_drewN | apply Kd.S_drew)); exact (Kd.S_mono (Kd.S_far (p := ⟨gb192, 0, none⟩) (Kd.S_types HO191.out BK192.out (by decide)) (fun _ hk => hk.2) (.slice Ao116 t189.length co116)) (fun _ h_ => h_.1))) (Kd.S_base ho0) hb); have n3_ := Aside0.mk (Kd.S_lower (Kd.S_new' (Kd.S_new' (Kd.S_new' ho0 (Kd.S_lt (by (with_reducible repeat (first | apply Kd.S_alloc | apply Kd.S_drewN | apply Kd.S_drew)); exact (Kd.S_mono (Kd.S_far (p := ⟨gb192, 0, none⟩) (Kd.S_types HO184.out BK192.out (by decide)) (fun _ hk => hk.2) (.slice Ao116 t189.length co116)) (fun _ h_ => h_.1))))) (Kd.S_lt (by (with_reducible repeat (first | apply Kd.S_alloc | apply Kd.S_drewN | apply Kd.S_drew)); exact (Kd.S_mono (Kd.S_far (p := ⟨gb192, 0, none⟩) (Kd.S_types HO187.out BK192.out (by decide)) (fun _ hk => hk.2) (.slice Ao116 t189.length co116)) (fun _ h_ => h_.1))))) (Kd.S_lt (by (with_reducible repeat (first | apply Kd.S_alloc | apply Kd.S_drewN | apply Kd.S_drew)); exact (Kd.S_mono (Kd.S_far (p := ⟨gb192, 0, none⟩) (Kd.S_types HO191.out BK192.out (by decide)) (fun _ hk => hk.2) (.slice Ao116 t189.length co116)) (fun _ h_ => h_.1))))) Kit.bz); have n4_ := Aside0.mk (Kit.bf BK178.out hb); have n5_ := Aside0.mk (Kit.bf BK179.out hb); have n6_ := Aside0.mk (blk_below (g := gb192) (o := .cells #[.slice Ao116 t189.length co116] 38 (0, 0)) (by (with_reducible repeat (first | refine blk_drewN ?_ _ | refine blk_drew ?_ | refine blk_alloc ?_ _)); refine blk_put (cs := #[.slice none 0 0]) ?_ 0 _ rfl; (with_reducible repeat (first | refine blk_drewN ?_ _ | refine blk_drew ?_ | refine blk_alloc ?_ _)); exact BK192.out) hb); have n7_ := Aside0.mk (below_step Kit.bl hb); clear HO184; clear HO187; clear HO191; clear BK178; clear BK179; clear BK192; clear HB; have HO184 := n0_; have HO187 := n1_; have HO191 := n2_; have HO195 := n3_; have BK178 := n4_; have BK179 := n5_; have BK192 := n6_; have HB := n7_; clear n0_ n1_ n2_ n3_ n4_ n5_ n6_ n7_; (try clear hb); (try clear hb2); (try clear hk); (try clear hi); (try clear ho0)) | ((with_reducible refine gate_dst (N := 8) rfl ?_); refine box_event ?hg (N := 8) ?hd (cs := #[.slice none 0 0]) (t := 38) ?hr ?_; (case hd => rfl); (case hg => rfl); (case hr => exact Kit.hr); intro gb196 hg w122 hbox hb; replace HO184 := Aside0.mk (Kd.S_below (Kit.sx HO184.out) hb); replace HO187 := Aside0.mk (Kd.S_below (Kit.sx HO187.out) hb); replace HO191 := Aside0.mk (Kd.S_below (Kit.sx HO191.out) hb); replace HO195 := Aside0.mk (Kd.S_below (Kit.sx HO195.out) hb); have BK196 := Aside0.mk (hbox); have GW196 := Aside0.mk (Kit.gx (w := w) hg); have GE196 := Aside0.mk (Kit.gx (w := w) hg); replace HB := Aside0.mk (below_step Kit.bl hb); have NB178_196 := Aside0.mk (Kit.nlt hg BK178.out); have NB196_178 := Aside0.mk (Kit.ngt hg BK178.out); replace BK178 := Aside0.mk (Kit.bb BK178.out hb); have NB179_196 := Aside0.mk (Kit.nlt hg BK179.out); have NB196_179 := Aside0.mk (Kit.ngt hg BK179.out); replace BK179 := Aside0.mk (Kit.bb BK179.out hb); have NB192_196 := Aside0.mk (Kit.nlt hg BK192.out); have NB196_192 := Aside0.mk (Kit.ngt hg BK192.out); replace BK192 := Aside0.mk (Kit.bb BK192.out hb); clear hb hbox hg; obtain ⟨Ao123, co123, eo123⟩ := Kd.S_slice HO195.out; subst eo123; have hnb124 := NB196_178.out; have hnc124 := NB178_196.out; have hnb125 := NB196_179.out; have hnc125 := NB179_196.out; have hnb126 := NB196_192.out; have hnc126 := NB192_196.out; obtain ⟨hcz127_0, hfz127_0⟩ := Kit.c1 BK196.out; obtain ⟨hcz128_0, hfz128_0⟩ := Kit.c1 BK192.out) | ((with_reducible refine gate_callee (f := 41) rfl ?_); refine goesL_ (some 31) rfl rfl Try.func41 (by kernel_rfl) rfl #[.agg #[.slice Ao116 t189.length co116], .agg #[.slice Ao123 t193.length co123]] rfl Kit.am ?_; (with_reducible refine (impl_SameOrigin.calls k _ _ t189 _ _ t193 t197 _ ?side1 ?side2 ?side3 ?side4 A24.out).mono ?_); (case side1 => refine (Kd.S_reads' (e := 71) (base := w.heap.size) (ok := fun k_ => (((True ∧ some k_ ≠ (.slice Ao110 t182.length co110 : Value).ownBlock) ∧ some k_ ≠ (.slice Ao111 t185.length co111 : Value).ownBlock) ∧ some k_ ≠ (.slice Ao123 t193.length co123 : Value).ownBlock)) (n := t189.length) (c := co116) ?_).2.2; exact (by (with_reducible repeat (first | apply Kd.S_alloc | apply Kd.S_drewN | apply Kd.S_drew)); exact (Kd.S_mono (Kd.S_far (p := ⟨gb196, 0, none⟩) (Kd.S_types HO191.out BK196.out (by decide)) (fun _ hk => hk.2) (.slice Ao123 t193.length co123)) (fun _ h_ => h_.1)))); (case side2 => exact (Kd.S_reads' HO191.out).2.1); (case side3 => refine (Kd.S_reads' (e := 71) (base := w.heap.size) (ok := fun k_ => (((True ∧ some k_ ≠ (.slice Ao110 t182.length co110 : Value).ownBlock) ∧ some k_ ≠ (.slice Ao111 t185.length co111 : Value).ownBlock) ∧ some k_ ≠ (.slice Ao116 t189.length co116 : Value).ownBlock)) (n := t193.length) (c := co123) ?_).2.2; exact (by (with_reducible repeat (first | apply Kd.S_alloc | apply Kd.S_drewN | apply Kd.S_drew)); exact (Kd.S_mono (Kd.S_far (p := ⟨gb196, 0, none⟩) (Kd.S_types HO195.out BK196.out (by decide)) (fun _ hk => hk.2) (.slice Ao123 t193.length co123)) (fun _ h_ => h_.1)))); (case side4 => exact (Kd.S_reads' HO195.out).2.1); rintro e w129 ⟨rfl, hb⟩; refine ⟨_, rfl, ?_⟩; have n0_ := Aside0.mk (Kd.S_below (by (with_reducible repeat (first | apply Kd.S_alloc | apply Kd.S_drewN | apply Kd.S_drew)); exact (Kd.S_mono (Kd.S_far (p := ⟨gb196, 0, none⟩) (Kd.S_types HO184.out BK196.out (by decide)) (fun _ hk => hk.2) (.slice Ao123 t193.length co123)) (fun _ h_ => h_.1))) hb); have n1_ := Aside0.mk (Kd.S_below (by (with_reducible repeat (first | apply Kd.S_alloc | apply Kd.S_drewN | apply Kd.S_drew)); exact (Kd.S_mono (Kd.S_far (p := ⟨gb196, 0, none⟩) (Kd.S_types HO187.out BK196.out (by decide)) (fun _ hk => hk.2) (.slice Ao123 t193.length co123)) (fun _ h_ => h_.1))) hb); have n2_ := Aside0.mk (Kd.S_below (by (with_reducible repeat (first | apply Kd.S_alloc | apply Kd.S_drewN | apply Kd.S_drew)); exact (Kd.S_mono (Kd.S_far (p := ⟨gb196, 0, none⟩) (Kd.S_types HO191.out BK196.out (by decide)) (fun _ hk => hk.2) (.slice Ao123 t193.length co123)) (fun _ h_ => h_.1))) hb); have n3_ := Aside0.mk (Kd.S_below (by (with_reducible repeat (first | apply Kd.S_alloc | apply Kd.S_drewN | apply Kd.S_drew)); exact (Kd.S_mono (Kd.S_far (p := ⟨gb196, 0, none⟩) (Kd.S_types HO195.out BK196.out (by decide)) (fun _ hk => hk.2) (.slice Ao123 t193.length co123)) (fun _ h_ => h_.1))) hb); have n4_ := Aside0.mk (Kit.bf BK178.out hb); have n5_ := Aside0.mk (Kit.bf BK179.out hb); have n6_ := Aside0.mk (Kit.bf BK192.out hb); have n7_ := Aside0.mk (blk_below (g := gb196) (o := .cells #[.slice Ao123 t193.length co123] 38 (0, 0)) (by (with_reducible repeat (first | refine blk_drewN ?_ _ | refine blk_drew ?_ | refine blk_alloc ?_ _)); refine blk_put (cs := #[.slice none 0 0]) ?_ 0 _ rfl; (with_reducible repeat (first | refine blk_drewN ?_ _ | refine blk_drew ?_ | refine blk_alloc ?_ _)); exact BK196.out) hb); have n8_ := Aside0.mk (below_step Kit.bl hb); clear HO184; clear HO187; clear HO191; clear HO195; clear BK178; clear BK179; clear BK192; clear BK196; clear HB; have HO184 := n0_; have HO187 := n1_; have HO191 := n2_; have HO195 := n3_; have BK178 := n4_; have BK179 := n5_; have BK192 := n6_; have BK196 := n7_; have HB := n8_; clear n0_ n1_ n2_ n3_ n4_ n5_ n6_ n7_ n8_; (try clear hb); (try clear hb2); (try clear hk); (try clear hi)))
            have n0_ := Aside0.mk (Kd.S_drew HO184.out)
            have n1_ := Aside0.mk (Kd.S_drew HO187.out)
            have n2_ := Aside0.mk (Kd.S_drew HO191.out)
            have n3_ := Aside0.mk (Kd.S_drew HO195.out)
            have n4_ := Aside0.mk (blk_drew BK178.out)
            have n5_ := Aside0.mk (blk_drew BK179.out)
            have n6_ := Aside0.mk (blk_drew BK192.out)
            have n7_ := Aside0.mk (blk_drew BK196.out)
            have n8_ := Aside0.mk (below_drew1 HB.out)
            clear HO184
            clear HO187
            clear HO191
            clear HO195
            clear BK178
            clear BK179
            clear BK192
            clear BK196
            clear HB
            have HO184 := n0_
            have HO187 := n1_
            have HO191 := n2_
            have HO195 := n3_
            have BK178 := n4_
            have BK179 := n5_
            have BK192 := n6_
            have BK196 := n7_
            have HB := n8_
            clear n0_ n1_ n2_ n3_ n4_ n5_ n6_ n7_ n8_
            refine start_ (n := 5) (S := fun w' => w'.cell? ⟨gb192, 0, none⟩ = some (.slice Ao116 t189.length co116) ∧ w'.cell? ⟨gb178, 0, none⟩ = some (.slice A0_0 l0_0.length c0_0)) (ds := []) #[false, false, false, false, false] (by kernel_rfl) rfl rfl ⟨(blk_cell BK192.out 0).trans rfl, (blk_cell BK178.out 0).trans rfl⟩ (fun hHeld => ?_)
            generalize w129.drew = w130 at HO184 HO187 HO191 HO195 BK178 BK179 BK192 BK196 HB hHeld ⊢
            refine take_ (i := 0) (N := some 35) (v := ?_) (a' := ?_) #[true, false, false, false, false] rfl rfl (by kernel_rfl) (fun _ _ _ h => h) (Or.inl ⟨by rfl, ?_⟩) hHeld ?_ ?_
            rotate_left
            · rintro w' ⟨s0, s1⟩
              go_simp
              with_reducible rfl
            rotate_left
            · simp only [Act.put, List.setIfInBounds_toArray, List.set_cons_zero, List.set_cons_succ, i64_w, i32_w]
              rfl
            refine take_ (i := 1) (N := some 36) (v := ?_) (a' := ?_) #[true, true, false, false, false] rfl rfl (by kernel_rfl) (fun _ _ _ h => h) (Or.inl ⟨by rfl, ?_⟩) hHeld ?_ ?_
            rotate_left
            · rintro w' ⟨s0, s1⟩
              go_simp
              with_reducible rfl
            rotate_left
            · simp only [Act.put, List.setIfInBounds_toArray, List.set_cons_zero, List.set_cons_succ, i64_w, i32_w]
              rfl
            refine one_ (i := 2) (N := some 37) #[true, true, true, false, false] rfl rfl (by kernel_rfl) (by decide) (fun K hK => ?_)
            refine goes_ Try.func28 (by kernel_rfl) rfl #[.agg #[.slice A0_0 l0_0.length c0_0]] (by rfl) rfl rfl Kit.am ?_
            with_reducible refine (laws_toOrigin.calls k _ _ l0_0 t198 _ ?side1 ?side2 A56.out).mono ?_
            (case side1 => exact Kit.cx ((Kd.C_below HR0_0.out HB.out)))
            (case side2 => exact HC0_0.out)
            rintro e w131 ⟨v199, rfl, ho0, hb⟩
            refine ⟨_, rfl, ?_⟩
            have HO200 := Aside0.mk (Kd.S_lower (Kd.S_new' (Kd.S_new' (Kd.S_new' (Kd.S_new' ho0 (Kd.S_lt (Kit.sx HO184.out))) (Kd.S_lt (Kit.sx HO187.out))) (Kd.S_lt (Kit.sx HO191.out))) (Kd.S_lt (Kit.sx HO195.out))) Kit.bz)
            replace HO184 := Aside0.mk (Kd.S_elder' (Kit.sx HO184.out) (Kd.S_base ho0) hb)
            replace HO187 := Aside0.mk (Kd.S_elder' (Kit.sx HO187.out) (Kd.S_base ho0) hb)
            replace HO191 := Aside0.mk (Kd.S_elder' (Kit.sx HO191.out) (Kd.S_base ho0) hb)
            replace HO195 := Aside0.mk (Kd.S_elder' (Kit.sx HO195.out) (Kd.S_base ho0) hb)
            replace BK178 := Aside0.mk (Kit.bb BK178.out hb)
            replace BK179 := Aside0.mk (Kit.bb BK179.out hb)
            replace BK192 := Aside0.mk (Kit.bb BK192.out hb)
            replace BK196 := Aside0.mk (Kit.bb BK196.out hb)
            replace HB := Aside0.mk (below_step Kit.bl hb)
            (try clear hb)
            (try clear hb2)
            (try clear hk)
            (try clear hi)
            (try clear ho0)
            obtain ⟨Ao132, co132, eo132⟩ := Kd.S_slice HO200.out
            (first | subst eo132 | (injection eo132 with f1_ f2_ f3_; have f4_ := f1_.symm; have f5_ := f3_.symm; clear f1_ f2_ f3_; subst f4_; subst f5_))
            refine hK.out _ _ ⟨(blk_cell BK192.out 0).trans rfl, (blk_cell BK178.out 0).trans rfl⟩ (fun hHeld => ?_)
            clear hK K
            refine norm_ (a' := ?_) ?_ ?_
            rotate_left
            · show Act.put _ (some 37) _ = _
              simp only [Act.put, List.setIfInBounds_toArray, List.set_cons_zero, List.set_cons_succ, i64_w, i32_w]
              rfl
            refine one_ (i := 3) (N := some 38) #[true, true, true, true, false] rfl rfl (by kernel_rfl) (by decide) (fun K hK => ?_)
            refine goes_ Try.func30 (by kernel_rfl) rfl #[.agg #[.slice Ao116 t189.length co116], .agg #[.slice Ao132 t198.length co132]] (by rfl) rfl rfl Kit.am ?_
            with_reducible refine (laws_eqOrigin.calls k _ _ t189 _ _ t198 true _ ?side1 ?side2 ?side3 ?side4 A57.out).mono ?_
            (case side1 => exact Kit.cx ((Kd.S_reads' HO191.out).2.2))
            (case side2 => exact (Kd.S_reads' HO191.out).2.1)
            (case side3 => exact Kit.cx ((Kd.S_reads' HO200.out).2.2))
            (case side4 => exact (Kd.S_reads' HO200.out).2.1)
            rintro e w133 ⟨rfl, hb⟩
            refine ⟨_, rfl, ?_⟩
            replace HO184 := Aside0.mk (Kd.S_below (Kit.sx HO184.out) hb)
            replace HO187 := Aside0.mk (Kd.S_below (Kit.sx HO187.out) hb)
            replace HO191 := Aside0.mk (Kd.S_below (Kit.sx HO191.out) hb)
            replace HO195 := Aside0.mk (Kd.S_below (Kit.sx HO195.out) hb)
            replace HO200 := Aside0.mk (Kd.S_below (Kit.sx HO200.out) hb)
            replace BK178 := Aside0.mk (Kit.bb BK178.out hb)
            replace BK179 := Aside0.mk (Kit.bb BK179.out hb)
            replace BK192 := Aside0.mk (Kit.bb BK192.out hb)
            replace BK196 := Aside0.mk (Kit.bb BK196.out hb)
            replace HB := Aside0.mk (below_step Kit.bl hb)
            (try clear hb)
            (try clear hb2)
            (try clear hk)
            (try clear hi)
            refine hK.out _ _ ⟨(blk_cell BK192.out 0).trans rfl, (blk_cell BK178.out 0).trans rfl⟩ (fun hHeld => ?_)
            clear hK K
            refine norm_ (a' := ?_) ?_ ?_
            rotate_left
            · show Act.put _ (some 38) _ = _
              simp only [Act.put, List.setIfInBounds_toArray, List.set_cons_zero, List.set_cons_succ, i64_w, i32_w]
              rfl
            refine pure_ (i := 4) (N := some 39) (v := ?_) (a' := ?_) #[true, true, true, true, true] rfl rfl (by kernel_rfl) (fun _ _ _ h => h) (Or.inl ⟨by rfl, ?_⟩) ?_ ?_
            rotate_left
            · intro w'
              go_simp
              with_reducible rfl
            rotate_left
            · simp only [Act.put, List.setIfInBounds_toArray, List.set_cons_zero, List.set_cons_succ, i64_w, i32_w]
              rfl
            refine done_ (by kernel_rfl) ?_
            try go_wp2
            replace HO184 := Aside0.mk (Kd.S_drew HO184.out)
            replace HO187 := Aside0.mk (Kd.S_drew HO187.out)
            replace HO191 := Aside0.mk (Kd.S_drew HO191.out)
            replace HO195 := Aside0.mk (Kd.S_drew HO195.out)
            replace HO200 := Aside0.mk (Kd.S_drew HO200.out)
            replace BK178 := Aside0.mk (blk_drew BK178.out)
            replace BK179 := Aside0.mk (blk_drew BK179.out)
            replace BK192 := Aside0.mk (blk_drew BK192.out)
            replace BK196 := Aside0.mk (blk_drew BK196.out)
            replace HB := Aside0.mk (below_drew1 HB.out)
            refine start_ (n := 5) (S := fun w' => w'.cell? ⟨gb196, 0, none⟩ = some (.slice Ao123 t193.length co123) ∧ w'.cell? ⟨gb179, 0, none⟩ = some (.slice A1_0 l1_0.length c1_0)) (ds := []) #[false, false, false, false, false] (by kernel_rfl) rfl rfl ⟨(blk_cell BK196.out 0).trans rfl, (blk_cell BK179.out 0).trans rfl⟩ (fun hHeld => ?_)
            generalize w133.drew = w134 at HO184 HO187 HO191 HO195 HO200 BK178 BK179 BK192 BK196 HB hHeld ⊢
            refine take_ (i := 0) (N := some 40) (v := ?_) (a' := ?_) #[true, false, false, false, false] rfl rfl (by kernel_rfl) (fun _ _ _ h => h) (Or.inl ⟨by rfl, ?_⟩) hHeld ?_ ?_
            rotate_left
            · rintro w' ⟨s0, s1⟩
              go_simp
              with_reducible rfl
            rotate_left
            · simp only [Act.put, List.setIfInBounds_toArray, List.set_cons_zero, List.set_cons_succ, i64_w, i32_w]
              rfl
            refine take_ (i := 1) (N := some 41) (v := ?_) (a' := ?_) #[true, true, false, false, false] rfl rfl (by kernel_rfl) (fun _ _ _ h => h) (Or.inl ⟨by rfl, ?_⟩) hHeld ?_ ?_
            rotate_left
            · rintro w' ⟨s0, s1⟩
              go_simp
              with_reducible rfl
            rotate_left
            · simp only [Act.put, List.setIfInBounds_toArray, List.set_cons_zero, List.set_cons_succ, i64_w, i32_w]
              rfl
            refine one_ (i := 2) (N := some 42) #[true, true, true, false, false] rfl rfl (by kernel_rfl) (by decide) (fun K hK => ?_)
            refine goes_ Try.func28 (by kernel_rfl) rfl #[.agg #[.slice A1_0 l1_0.length c1_0]] (by rfl) rfl rfl Kit.am ?_
            with_reducible refine (laws_toOrigin.calls k _ _ l1_0 t202 _ ?side1 ?side2 A59.out).mono ?_
            (case side1 => exact Kit.cx ((Kd.C_below HR1_0.out HB.out)))
            (case side2 => exact HC1_0.out)
            rintro e w135 ⟨v203, rfl, ho0, hb⟩
            refine ⟨_, rfl, ?_⟩
            have HO204 := Aside0.mk (Kd.S_lower (Kd.S_new' (Kd.S_new' (Kd.S_new' (Kd.S_new' (Kd.S_new' ho0 (Kd.S_lt (Kit.sx HO184.out))) (Kd.S_lt (Kit.sx HO187.out))) (Kd.S_lt (Kit.sx HO191.out))) (Kd.S_lt (Kit.sx HO195.out))) (Kd.S_lt (Kit.sx HO200.out))) Kit.bz)
            replace HO184 := Aside0.mk (Kd.S_elder' (Kit.sx HO184.out) (Kd.S_base ho0) hb)
            replace HO187 := Aside0.mk (Kd.S_elder' (Kit.sx HO187.out) (Kd.S_base ho0) hb)
            replace HO191 := Aside0.mk (Kd.S_elder' (Kit.sx HO191.out) (Kd.S_base ho0) hb)
            replace HO195 := Aside0.mk (Kd.S_elder' (Kit.sx HO195.out) (Kd.S_base ho0) hb)
            replace HO200 := Aside0.mk (Kd.S_elder' (Kit.sx HO200.out) (Kd.S_base ho0) hb)
            replace BK178 := Aside0.mk (Kit.bb BK178.out hb)
            replace BK179 := Aside0.mk (Kit.bb BK179.out hb)
            replace BK192 := Aside0.mk (Kit.bb BK192.out hb)
            replace BK196 := Aside0.mk (Kit.bb BK196.out hb)
            replace HB := Aside0.mk (below_step Kit.bl hb)
            (try clear hb)
            (try clear hb2)
            (try clear hk)
            (try clear hi)
            (try clear ho0)
            obtain ⟨Ao136, co136, eo136⟩ := Kd.S_slice HO204.out
            (first | subst eo136 | (injection eo136 with f1_ f2_ f3_; have f4_ := f1_.symm; have f5_ := f3_.symm; clear f1_ f2_ f3_; subst f4_; subst f5_))
            refine hK.out _ _ ⟨(blk_cell BK196.out 0).trans rfl, (blk_cell BK179.out 0).trans rfl⟩ (fun hHeld => ?_)
            clear hK K
            refine norm_ (a' := ?_) ?_ ?_
            rotate_left
            · show Act.put _ (some 42) _ = _
              simp only [Act.put, List.setIfInBounds_toArray, List.set_cons_zero, List.set_cons_succ, i64_w, i32_w]
              rfl
            refine one_ (i := 3) (N := some 43) #[true, true, true, true, false] rfl rfl (by kernel_rfl) (by decide) (fun K hK => ?_)
            refine goes_ Try.func30 (by kernel_rfl) rfl #[.agg #[.slice Ao123 t193.length co123], .agg #[.slice Ao136 t202.length co136]] (by rfl) rfl rfl Kit.am ?_
            with_reducible refine (laws_eqOrigin.calls k _ _ t193 _ _ t202 false _ ?side1 ?side2 ?side3 ?side4 A60.out).mono ?_
            (case side1 => exact Kit.cx ((Kd.S_reads' HO195.out).2.2))
            (case side2 => exact (Kd.S_reads' HO195.out).2.1)
            (case side3 => exact Kit.cx ((Kd.S_reads' HO204.out).2.2))
            (case side4 => exact (Kd.S_reads' HO204.out).2.1)
            rintro e w137 ⟨rfl, hb⟩
            refine ⟨_, rfl, ?_⟩
            replace HO184 := Aside0.mk (Kd.S_below (Kit.sx HO184.out) hb)
            replace HO187 := Aside0.mk (Kd.S_below (Kit.sx HO187.out) hb)
            replace HO191 := Aside0.mk (Kd.S_below (Kit.sx HO191.out) hb)
            replace HO195 := Aside0.mk (Kd.S_below (Kit.sx HO195.out) hb)
            replace HO200 := Aside0.mk (Kd.S_below (Kit.sx HO200.out) hb)
            replace HO204 := Aside0.mk (Kd.S_below (Kit.sx HO204.out) hb)
            replace BK178 := Aside0.mk (Kit.bb BK178.out hb)
            replace BK179 := Aside0.mk (Kit.bb BK179.out hb)
            replace BK192 := Aside0.mk (Kit.bb BK192.out hb)
            replace BK196 := Aside0.mk (Kit.bb BK196.out hb)
            replace HB := Aside0.mk (below_step Kit.bl hb)
            (try clear hb)
            (try clear hb2)
            (try clear hk)
            (try clear hi)
            refine hK.out _ _ ⟨(blk_cell BK196.out 0).trans rfl, (blk_cell BK179.out 0).trans rfl⟩ (fun hHeld => ?_)
            clear hK K
            refine norm_ (a' := ?_) ?_ ?_
            rotate_left
            · show Act.put _ (some 43) _ = _
              simp only [Act.put, List.setIfInBounds_toArray, List.set_cons_zero, List.set_cons_succ, i64_w, i32_w]
              rfl
            refine pure_ (i := 4) (N := some 44) (v := ?_) (a' := ?_) #[true, true, true, true, true] rfl rfl (by kernel_rfl) (fun _ _ _ h => h) (Or.inl ⟨by rfl, ?_⟩) ?_ ?_
            rotate_left
            · intro w'
              go_simp
              with_reducible rfl
            rotate_left
            · simp only [Act.put, List.setIfInBounds_toArray, List.set_cons_zero, List.set_cons_succ, i64_w, i32_w]
              rfl
            refine done_ (by kernel_rfl) ?_
            try go_wp2
            go_ret
            exact ⟨Kit.er, Kit.bl⟩
        · replace c58 := Bool.eq_false_iff.mpr c58
          subst c58
          have H1 : (some false) = some r := by rw [if_neg (show ¬ (false = true) by decide)] at H; exact H
          clear H
          have H := H1
          clear H1
          obtain rfl := Option.some.inj H
          go_enter Try.func11, Try.ntmps11
          try go_wp2_with (first | ((with_reducible refine gate_dst (N := 2) rfl ?_); refine box_event ?hg (N := 2) ?hd (cs := #[.slice A0_0 l0_0.length c0_0]) (t := 33) ?hr ?_; (case hd => rfl); (case hg => rfl); (case hr => exact Kit.hr); intro gb178 hg w138 hbox hb; have BK178 := Aside0.mk (hbox); have GW178 := Aside0.mk (Kit.gx (w := w) hg); have GE178 := Aside0.mk (Kit.gx (w := w) hg); replace HB := Aside0.mk (below_step Kit.bl hb); clear hb hbox hg) | ((with_reducible refine gate_dst (N := 3) rfl ?_); refine box_event ?hg (N := 3) ?hd (cs := #[.slice A1_0 l1_0.length c1_0]) (t := 33) ?hr ?_; (case hd => rfl); (case hg => rfl); (case hr => exact Kit.hr); intro gb179 hg w139 hbox hb; have BK179 := Aside0.mk (hbox); have GW179 := Aside0.mk (Kit.gx (w := w) hg); have GE179 := Aside0.mk (Kit.gx (w := w) hg); replace HB := Aside0.mk (below_step Kit.bl hb); have NB178_179 := Aside0.mk (Kit.nlt hg BK178.out); have NB179_178 := Aside0.mk (Kit.ngt hg BK178.out); replace BK178 := Aside0.mk (Kit.bb BK178.out hb); clear hb hbox hg; have hnb140 := NB178_179.out; have hnc140 := NB179_178.out; obtain ⟨hcz141_0, hfz141_0⟩ := Kit.c1 BK178.out) | ((with_reducible refine gate_callee (f := 26) rfl ?_); refine goesL_ (some 12) rfl rfl Try.func26 (by kernel_rfl) rfl #[.agg #[.slice A0_0 l0_0.length c0_0], .int .i64 1048576] rfl Kit.am ?_; (with_reducible refine (laws_szOrigin.calls k _ _ l0_0 1048576 t180 _ ?side1 ?side2 A3.out).mono ?_); (case side1 => exact Kit.cx ((Kd.C_below HR0_0.out HB.out))); (case side2 => exact HC0_0.out); rintro e w142 ⟨rfl, hb⟩; refine ⟨_, rfl, ?_⟩; replace BK178 := Aside0.mk (Kit.bb BK178.out hb); replace BK179 := Aside0.mk (Kit.bb BK179.out hb); replace HB := Aside0.mk (below_step Kit.bl hb); (try clear hb); (try clear hb2); (try clear hk); (try clear hi); obtain ⟨hcz143_0, hfz143_0⟩ := Kit.c1 BK179.out) | ((with_reducible refine gate_callee (f := 26) rfl ?_); refine goesL_ (some 17) rfl rfl Try.func26 (by kernel_rfl) rfl #[.agg #[.slice A1_0 l1_0.length c1_0], .int .i64 t180] rfl Kit.am ?_; (with_reducible refine (laws_szOrigin.calls k _ _ l1_0 t180 t181 _ ?side1 ?side2 A10.out).mono ?_); (case side1 => exact Kit.cx ((Kd.C_below HR1_0.out HB.out))); (case side2 => exact HC1_0.out); rintro e w144 ⟨rfl, hb⟩; refine ⟨_, rfl, ?_⟩; replace BK178 := Aside0.mk (Kit.bb BK178.out hb); replace BK179 := Aside0.mk (Kit.bb BK179.out hb); replace HB := Aside0.mk (below_step Kit.bl hb); (try clear hb); (try clear hb2); (try clear hk); (try clear hi)))
          replace BK178 := Aside0.mk (blk_drew BK178.out)
          replace BK179 := Aside0.mk (blk_drew BK179.out)
          replace HB := Aside0.mk (below_drew1 HB.out)
          refine start_ (n := 6) (S := fun w' => w'.cell? ⟨gb178, 0, none⟩ = some (.slice A0_0 l0_0.length c0_0) ∧ w'.cell? ⟨gb179, 0, none⟩ = some (.slice A1_0 l1_0.length c1_0)) (ds := []) #[false, false, false, false, false, false] (by kernel_rfl) rfl rfl ⟨(blk_cell BK178.out 0).trans rfl, (blk_cell BK179.out 0).trans rfl⟩ (fun hHeld => ?_)
          generalize w144.drew = w145 at BK178 BK179 HB hHeld ⊢
          refine take_ (i := 0) (N := some 20) (v := ?_) (a' := ?_) #[true, false, false, false, false, false] rfl rfl (by kernel_rfl) (fun _ _ _ h => h) (Or.inl ⟨by rfl, ?_⟩) hHeld ?_ ?_
          rotate_left
          · rintro w' ⟨s0, s1⟩
            go_simp
            with_reducible rfl
          rotate_left
          · simp only [Act.put, List.setIfInBounds_toArray, List.set_cons_zero, List.set_cons_succ, i64_w, i32_w]
            rfl
          refine take_ (i := 2) (N := some 22) (v := ?_) (a' := ?_) #[true, false, true, false, false, false] rfl rfl (by kernel_rfl) (fun _ _ _ h => h) (Or.inl ⟨by rfl, ?_⟩) hHeld ?_ ?_
          rotate_left
          · rintro w' ⟨s0, s1⟩
            go_simp
            with_reducible rfl
          rotate_left
          · simp only [Act.put, List.setIfInBounds_toArray, List.set_cons_zero, List.set_cons_succ, i64_w, i32_w]
            rfl
          refine one_ (i := 1) (N := some 21) #[true, true, true, false, false, false] rfl rfl (by kernel_rfl) (by decide) (fun K hK => ?_)
          refine goes_ Try.func28 (by kernel_rfl) rfl #[.agg #[.slice A0_0 l0_0.length c0_0]] (by rfl) rfl rfl Kit.am ?_
          with_reducible refine (laws_toOrigin.calls k _ _ l0_0 t182 _ ?side1 ?side2 A19.out).mono ?_
          (case side1 => exact Kit.cx ((Kd.C_below HR0_0.out HB.out)))
          (case side2 => exact HC0_0.out)
          rintro e w146 ⟨v183, rfl, ho0, hb⟩
          refine ⟨_, rfl, ?_⟩
          have HO184 := Aside0.mk (Kd.S_lower ho0 Kit.bz)
          replace BK178 := Aside0.mk (Kit.bb BK178.out hb)
          replace BK179 := Aside0.mk (Kit.bb BK179.out hb)
          replace HB := Aside0.mk (below_step Kit.bl hb)
          (try clear hb)
          (try clear hb2)
          (try clear hk)
          (try clear hi)
          (try clear ho0)
          refine hK.out _ _ ⟨(blk_cell BK178.out 0).trans rfl, (blk_cell BK179.out 0).trans rfl⟩ (fun hHeld => ?_)
          clear hK K
          refine norm_ (a' := ?_) ?_ ?_
          rotate_left
          · show Act.put _ (some 21) _ = _
            simp only [Act.put, List.setIfInBounds_toArray, List.set_cons_zero, List.set_cons_succ, i64_w, i32_w]
            rfl
          refine one_ (i := 3) (N := some 23) #[true, true, true, true, false, false] rfl rfl (by kernel_rfl) (by decide) (fun K hK => ?_)
          refine goes_ Try.func28 (by kernel_rfl) rfl #[.agg #[.slice A1_0 l1_0.length c1_0]] (by rfl) rfl rfl Kit.am ?_
          with_reducible refine (laws_toOrigin.calls k _ _ l1_0 t185 _ ?side1 ?side2 A20.out).mono ?_
          (case side1 => exact Kit.cx ((Kd.C_below HR1_0.out HB.out)))
          (case side2 => exact HC1_0.out)
          rintro e w147 ⟨v186, rfl, ho0, hb⟩
          refine ⟨_, rfl, ?_⟩
          have HO187 := Aside0.mk (Kd.S_lower (Kd.S_new' ho0 (Kd.S_lt (Kit.sx HO184.out))) Kit.bz)
          replace HO184 := Aside0.mk (Kd.S_elder' (Kit.sx HO184.out) (Kd.S_base ho0) hb)
          replace BK178 := Aside0.mk (Kit.bb BK178.out hb)
          replace BK179 := Aside0.mk (Kit.bb BK179.out hb)
          replace HB := Aside0.mk (below_step Kit.bl hb)
          (try clear hb)
          (try clear hb2)
          (try clear hk)
          (try clear hi)
          (try clear ho0)
          obtain ⟨Ao148, co148, eo148⟩ := Kd.S_slice HO184.out
          (first | subst eo148 | (injection eo148 with f1_ f2_ f3_; have f4_ := f1_.symm; have f5_ := f3_.symm; clear f1_ f2_ f3_; subst f4_; subst f5_))
          obtain ⟨Ao149, co149, eo149⟩ := Kd.S_slice HO187.out
          (first | subst eo149 | (injection eo149 with f1_ f2_ f3_; have f4_ := f1_.symm; have f5_ := f3_.symm; clear f1_ f2_ f3_; subst f4_; subst f5_))
          refine hK.out _ _ ⟨(blk_cell BK178.out 0).trans rfl, (blk_cell BK179.out 0).trans rfl⟩ (fun hHeld => ?_)
          clear hK K
          refine norm_ (a' := ?_) ?_ ?_
          rotate_left
          · show Act.put _ (some 23) _ = _
            simp only [Act.put, List.setIfInBounds_toArray, List.set_cons_zero, List.set_cons_succ, i64_w, i32_w]
            rfl
          refine one_ (i := 4) (N := some 24) #[true, true, true, true, true, false] rfl rfl (by kernel_rfl) (by decide) (fun K hK => ?_)
          refine goes_ Try.func40 (by kernel_rfl) rfl #[.agg #[.slice Ao148 t182.length co148], .agg #[.slice Ao149 t185.length co149]] (by rfl) rfl rfl Kit.am ?_
          with_reducible refine (spec_SameOrigin.calls k _ _ t182 _ _ t185 t188 _ ?side1 ?side2 ?side3 ?side4 A21.out).mono ?_
          (case side1 => exact Kit.cx ((Kd.S_reads' HO184.out).2.2))
          (case side2 => exact (Kd.S_reads' HO184.out).2.1)
          (case side3 => exact Kit.cx ((Kd.S_reads' HO187.out).2.2))
          (case side4 => exact (Kd.S_reads' HO187.out).2.1)
          rintro e w150 ⟨rfl, hb⟩
          refine ⟨_, rfl, ?_⟩
          replace HO184 := Aside0.mk (Kd.S_below (Kit.sx HO184.out) hb)
          replace HO187 := Aside0.mk (Kd.S_below (Kit.sx HO187.out) hb)
          replace BK178 := Aside0.mk (Kit.bb BK178.out hb)
          replace BK179 := Aside0.mk (Kit.bb BK179.out hb)
          replace HB := Aside0.mk (below_step Kit.bl hb)
          (try clear hb)
          (try clear hb2)
          (try clear hk)
          (try clear hi)
          refine hK.out _ _ ⟨(blk_cell BK178.out 0).trans rfl, (blk_cell BK179.out 0).trans rfl⟩ (fun hHeld => ?_)
          clear hK K
          refine norm_ (a' := ?_) ?_ ?_
          rotate_left
          · show Act.put _ (some 24) _ = _
            simp only [Act.put, List.setIfInBounds_toArray, List.set_cons_zero, List.set_cons_succ, i64_w, i32_w]
            rfl
          refine pure_ (i := 5) (N := some 6) (v := ?_) (a' := ?_) #[true, true, true, true, true, true] rfl rfl (by kernel_rfl) (fun _ _ _ h => h) (Or.inl ⟨by rfl, ?_⟩) ?_ ?_
          rotate_left
          · intro w'
            go_simp
            with_reducible rfl
          rotate_left
          · simp only [Act.put, List.setIfInBounds_toArray, List.set_cons_zero, List.set_cons_succ, i64_w, i32_w]
            rfl
          refine done_ (by kernel_rfl) ?_
          obtain ⟨hcz151_0, hfz151_0⟩ := Kit.c1 BK178.out
          try go_wp2_with (first | ((with_reducible refine gate_callee (f := 28) rfl ?_); refine goesL_ (some 26) rfl rfl Try.func28 (by kernel_rfl) rfl #[.agg #[.slice A0_0 l0_0.length c0_0]] rfl Kit.am ?_; (with_reducible refine (laws_toOrigin.calls k _ _ l0_0 t189 _ ?side1 ?side2 A22.out).mono ?_); (case side1 => exact Kit.cx ((Kd.C_below HR0_0.out HB.out))); (case side2 => exact HC0_0.out); rintro e w152 ⟨v190, rfl, ho0, hb⟩; refine ⟨_, rfl, ?_⟩; have one_v190 : (v190 : Value).oneCell' = true := Kit.ov0; have HO191 := Aside0.mk (Kd.S_lower (Kd.S_new' (Kd.S_new' ho0 (Kd.S_lt (Kit.sx HO184.out))) (Kd.S_lt (Kit.sx HO187.out))) Kit.bz); replace HO184 := Aside0.mk (Kd.S_elder' (Kit.sx HO184.out) (Kd.S_base ho0) hb); replace HO187 := Aside0.mk (Kd.S_elder' (Kit.sx HO187.out) (Kd.S_base ho0) hb); replace BK178 := Aside0.mk (Kit.bb BK178.out hb); replace BK179 := Aside0.mk (Kit.bb BK179.out hb); replace HB := Aside0.mk (below_step Kit.bl hb); (try clear hb); (try clear hb2); (try clear hk); (try clear hi); (try clear ho0)) | ((with_reducible refine gate_dst (N := 7) rfl ?_); refine box_event ?hg (N := 7) ?hd (cs := #[.slice none 0 0]) (t := 38) ?hr ?_; (case hd => rfl); (case hg => rfl); (case hr => exact Kit.hr); intro gb192 hg w153 hbox hb; replace HO184 := Aside0.mk (Kd.S_below (Kit.sx HO184.out) hb); replace HO187 := Aside0.mk (Kd.S_below (Kit.sx HO187.out) hb); replace HO191 := Aside0.mk (Kd.S_below (Kit.sx HO191.out) hb); have BK192 := Aside0.mk (hbox); have GW192 := Aside0.mk (Kit.gx (w := w) hg); have GE192 := Aside0.mk (Kit.gx (w := w) hg); replace HB := Aside0.mk (below_step Kit.bl hb); have NB178_192 := Aside0.mk (Kit.nlt hg BK178.out); have NB192_178 := Aside0.mk (Kit.ngt hg BK178.out); replace BK178 := Aside0.mk (Kit.bb BK178.out hb); have NB179_192 := Aside0.mk (Kit.nlt hg BK179.out); have NB192_179 := Aside0.mk (Kit.ngt hg BK179.out); replace BK179 := Aside0.mk (Kit.bb BK179.out hb); clear hb hbox hg; obtain ⟨Ao154, co154, eo154⟩ := Kd.S_slice HO191.out; subst eo154; have hnb155 := NB192_178.out; have hnc155 := NB178_192.out; have hnb156 := NB192_179.out; have hnc156 := NB179_192.out; obtain ⟨hcz157_0, hfz157_0⟩ := Kit.c1 BK192.out; obtain ⟨hcz158_0, hfz158_0⟩ := Kit.c1 BK179.out) | ((with_reducible refine gate_callee (f := 28) rfl ?_); refine goesL_ (some 28) rfl rfl Try.func28 (by kernel_rfl) rfl #[.agg #[.slice A1_0 l1_0.length c1_0]] rfl Kit.am ?_; (with_reducible refine (laws_toOrigin.calls k _ _ l1_0 t193 _ ?side1 ?side2 A23.out).mono ?_); (case side1 => exact Kd.C_below HR1_0.out Kit.bl); (case side2 => exact HC1_0.out); rintro e w159 ⟨v194, rfl, ho0, hb⟩; refine ⟨_, rfl, ?_⟩; have one_v194 : (v194 : Value).oneCell' = true := Kit.ov0; have n0_ := Aside0.mk (Kd.S_elder' (by (with_reducible repeat (first | apply Kd.S_alloc | apply Kd.S_drewN | apply Kd.S_drew)); exact (Kd.S_mono (Kd.S_far (p := ⟨gb192, 0, none⟩) (Kd.S_types HO184.out BK192.out (by decide)) (fun _ hk => hk.2) (.slice Ao154 t189.length co154)) (fun _ h_ => h_.1))) (Kd.S_base ho0) hb); have n1_ := Aside0.mk (Kd.S_elder' (by (with_reducible repeat (first | apply Kd.S_alloc | apply Kd.S_drewN | apply Kd.S_drew)); exact (Kd.S_mono (Kd.S_far (p := ⟨gb192, 0, none⟩) (Kd.S_types HO187.out BK192.out (by decide)) (fun _ hk => hk.2) (.slice Ao154 t189.length co154)) (fun _ h_ => h_.1))) (Kd.S_base ho0) hb); have n2_ := Aside0.mk (Kd.S_elder' (by (with_reducible repeat (first | apply Kd.S_alloc | apply Kd.S_drewN | apply Kd.S_drew)); exact (Kd.S_mono (Kd.S_far (p := ⟨gb192, 0, none⟩) (Kd.S_types HO191.out BK192.out (by decide)) (fun _ hk => hk.2) (.slice Ao154 t189.length co154)) (fun _ h_ => h_.1))) (Kd.S_base ho0) hb); have n3_ := Aside0.mk (Kd.S_lower (Kd.S_new' (Kd.S_new' (Kd.S_new' ho0 (Kd.S_lt (by (with_reducible repeat (first | apply Kd.S_alloc | apply Kd.S_drewN | apply Kd.S_drew)); exact (Kd.S_mono (Kd.S_far (p := ⟨gb192, 0, none⟩) (Kd.S_types HO184.out BK192.out (by decide)) (fun _ hk => hk.2) (.slice Ao154 t189.length co154)) (fun _ h_ => h_.1))))) (Kd.S_lt (by (with_reducible repeat (first | apply Kd.S_alloc | apply Kd.S_drewN | apply Kd.S_drew)); exact (Kd.S_mono (Kd.S_far (p := ⟨gb192, 0, none⟩) (Kd.S_types HO187.out BK192.out (by decide)) (fun _ hk => hk.2) (.slice Ao154 t189.length co154)) (fun _ h_ => h_.1))))) (Kd.S_lt (by (with_reducible repeat (first | apply Kd.S_alloc | apply Kd.S_drewN | apply Kd.S_drew)); exact (Kd.S_mono (Kd.S_far (p := ⟨gb192, 0, none⟩) (Kd.S_types HO191.out BK192.out (by decide)) (fun _ hk => hk.2) (.slice Ao154 t189.length co154)) (fun _ h_ => h_.1))))) Kit.bz); have n4_ := Aside0.mk (Kit.bf BK178.out hb); have n5_ := Aside0.mk (Kit.bf BK179.out hb); have n6_ := Aside0.mk (blk_below (g := gb192) (o := .cells #[.slice Ao154 t189.length co154] 38 (0, 0)) (by (with_reducible repeat (first | refine blk_drewN ?_ _ | refine blk_drew ?_ | refine blk_alloc ?_ _)); refine blk_put (cs := #[.slice none 0 0]) ?_ 0 _ rfl; (with_reducible repeat (first | refine blk_drewN ?_ _ | refine blk_drew ?_ | refine blk_alloc ?_ _)); exact BK192.out) hb); have n7_ := Aside0.mk (below_step Kit.bl hb); clear HO184; clear HO187; clear HO191; clear BK178; clear BK179; clear BK192; clear HB; have HO184 := n0_; have HO187 := n1_; have HO191 := n2_; have HO195 := n3_; have BK178 := n4_; have BK179 := n5_; have BK192 := n6_; have HB := n7_; clear n0_ n1_ n2_ n3_ n4_ n5_ n6_ n7_; (try clear hb); (try clear hb2); (try clear hk); (try clear hi); (try clear ho0)) | ((with_reducible refine gate_dst (N := 8) rfl ?_); refine box_event ?hg (N := 8) ?hd (cs := #[.slice none 0 0]) (t := 38) ?hr ?_; (case hd => rfl); (case hg => rfl); (case hr => exact Kit.hr); intro gb196 hg w160 hbox hb; replace HO184 := Aside0.mk (Kd.S_below (Kit.sx HO184.out) hb); replace HO187 := Aside0.mk (Kd.S_below (Kit.sx HO187.out) hb); replace HO191 := Aside0.mk (Kd.S_below (Kit.sx HO191.out) hb); replace HO195 := Aside0.mk (Kd.S_below (Kit.sx HO195.out) hb); have BK196 := Aside0.mk (hbox); have GW196 := Aside0.mk (Kit.gx (w := w) hg); have GE196 := Aside0.mk (Kit.gx (w := w) hg); replace HB := Aside0.mk (below_step Kit.bl hb); have NB178_196 := Aside0.mk (Kit.nlt hg BK178.out); have NB196_178 := Aside0.mk (Kit.ngt hg BK178.out); replace BK178 := Aside0.mk (Kit.bb BK178.out hb); have NB179_196 := Aside0.mk (Kit.nlt hg BK179.out); have NB196_179 := Aside0.mk (Kit.ngt hg BK179.out); replace BK179 := Aside0.mk (Kit.bb BK179.out hb); have NB192_196 := Aside0.mk (Kit.nlt hg BK192.out); have NB196_192 := Aside0.mk (Kit.ngt hg BK192.out); replace BK192 := Aside0.mk (Kit.bb BK192.out hb); clear hb hbox hg; obtain ⟨Ao161, co161, eo161⟩ := Kd.S_slice HO195.out; subst eo161; have hnb162 := NB196_178.out; have hnc162 := NB178_196.out; have hnb163 := NB196_179.out; have hnc163 := NB179_196.out; have hnb164 := NB196_192.out; have hnc164 := NB192_196.out; obtain ⟨hcz165_0, hfz165_0⟩ := Kit.c1 BK196.out; obtain ⟨hcz166_0, hfz166_0⟩ := Kit.c1 BK192.out) | ((with_reducible refine gate_callee (f := 41) rfl ?_); refine goesL_ (some 31) rfl rfl Try.func41 (by kernel_rfl) rfl #[.agg #[.slice Ao154 t189.length co154], .agg #[.slice Ao161 t193.length co161]] rfl Kit.am ?_; (with_reducible refine (impl_SameOrigin.calls k _ _ t189 _ _ t193 t197 _ ?side1 ?side2 ?side3 ?side4 A24.out).mono ?_); (case side1 => refine (Kd.S_reads' (e := 71) (base := w.heap.size) (ok := fun k_ => (((True ∧ some k_ ≠ (.slice Ao148 t182.length co148 : Value).ownBlock) ∧ some k_ ≠ (.slice Ao149 t185.length co149 : Value).ownBlock) ∧ some k_ ≠ (.slice Ao161 t193.length co161 : Value).ownBlock)) (n := t189.length) (c := co154) ?_).2.2; exact (by (with_reducible repeat (first | apply Kd.S_alloc | apply Kd.S_drewN | apply Kd.S_drew)); exact (Kd.S_mono (Kd.S_far (p := ⟨gb196, 0, none⟩) (Kd.S_types HO191.out BK196.out (by decide)) (fun _ hk => hk.2) (.slice Ao161 t193.length co161)) (fun _ h_ => h_.1)))); (case side2 => exact (Kd.S_reads' HO191.out).2.1); (case side3 => refine (Kd.S_reads' (e := 71) (base := w.heap.size) (ok := fun k_ => (((True ∧ some k_ ≠ (.slice Ao148 t182.length co148 : Value).ownBlock) ∧ some k_ ≠ (.slice Ao149 t185.length co149 : Value).ownBlock) ∧ some k_ ≠ (.slice Ao154 t189.length co154 : Value).ownBlock)) (n := t193.length) (c := co161) ?_).2.2; exact (by (with_reducible repeat (first | apply Kd.S_alloc | apply Kd.S_drewN | apply Kd.S_drew)); exact (Kd.S_mono (Kd.S_far (p := ⟨gb196, 0, none⟩) (Kd.S_types HO195.out BK196.out (by decide)) (fun _ hk => hk.2) (.slice Ao161 t193.length co161)) (fun _ h_ => h_.1)))); (case side4 => exact (Kd.S_reads' HO195.out).2.1); rintro e w167 ⟨rfl, hb⟩; refine ⟨_, rfl, ?_⟩; have n0_ := Aside0.mk (Kd.S_below (by (with_reducible repeat (first | apply Kd.S_alloc | apply Kd.S_drewN | apply Kd.S_drew)); exact (Kd.S_mono (Kd.S_far (p := ⟨gb196, 0, none⟩) (Kd.S_types HO184.out BK196.out (by decide)) (fun _ hk => hk.2) (.slice Ao161 t193.length co161)) (fun _ h_ => h_.1))) hb); have n1_ := Aside0.mk (Kd.S_below (by (with_reducible repeat (first | apply Kd.S_alloc | apply Kd.S_drewN | apply Kd.S_drew)); exact (Kd.S_mono (Kd.S_far (p := ⟨gb196, 0, none⟩) (Kd.S_types HO187.out BK196.out (by decide)) (fun _ hk => hk.2) (.slice Ao161 t193.length co161)) (fun _ h_ => h_.1))) hb); have n2_ := Aside0.mk (Kd.S_below (by (with_reducible repeat (first | apply Kd.S_alloc | apply Kd.S_drewN | apply Kd.S_drew)); exact (Kd.S_mono (Kd.S_far (p := ⟨gb196, 0, none⟩) (Kd.S_types HO191.out BK196.out (by decide)) (fun _ hk => hk.2) (.slice Ao161 t193.length co161)) (fun _ h_ => h_.1))) hb); have n3_ := Aside0.mk (Kd.S_below (by (with_reducible repeat (first | apply Kd.S_alloc | apply Kd.S_drewN | apply Kd.S_drew)); exact (Kd.S_mono (Kd.S_far (p := ⟨gb196, 0, none⟩) (Kd.S_types HO195.out BK196.out (by decide)) (fun _ hk => hk.2) (.slice Ao161 t193.length co161)) (fun _ h_ => h_.1))) hb); have n4_ := Aside0.mk (Kit.bf BK178.out hb); have n5_ := Aside0.mk (Kit.bf BK179.out hb); have n6_ := Aside0.mk (Kit.bf BK192.out hb); have n7_ := Aside0.mk (blk_below (g := gb196) (o := .cells #[.slice Ao161 t193.length co161] 38 (0, 0)) (by (with_reducible repeat (first | refine blk_drewN ?_ _ | refine blk_drew ?_ | refine blk_alloc ?_ _)); refine blk_put (cs := #[.slice none 0 0]) ?_ 0 _ rfl; (with_reducible repeat (first | refine blk_drewN ?_ _ | refine blk_drew ?_ | refine blk_alloc ?_ _)); exact BK196.out) hb); have n8_ := Aside0.mk (below_step Kit.bl hb); clear HO184; clear HO187; clear HO191; clear HO195; clear BK178; clear BK179; clear BK192; clear BK196; clear HB; have HO184 := n0_; have HO187 := n1_; have HO191 := n2_; have HO195 := n3_; have BK178 := n4_; have BK179 := n5_; have BK192 := n6_; have BK196 := n7_; have HB := n8_; clear n0_ n1_ n2_ n3_ n4_ n5_ n6_ n7_ n8_; (try clear hb); (try clear hb2); (try clear hk); (try clear hi)))
          have n0_ := Aside0.mk (Kd.S_drew HO184.out)
          have n1_ := Aside0.mk (Kd.S_drew HO187.out)
          have n2_ := Aside0.mk (Kd.S_drew HO191.out)
          have n3_ := Aside0.mk (Kd.S_drew HO195.out)
          have n4_ := Aside0.mk (blk_drew BK178.out)
          have n5_ := Aside0.mk (blk_drew BK179.out)
          have n6_ := Aside0.mk (blk_drew BK192.out)
          have n7_ := Aside0.mk (blk_drew BK196.out)
          have n8_ := Aside0.mk (below_drew1 HB.out)
          clear HO184
          clear HO187
          clear HO191
          clear HO195
          clear BK178
          clear BK179
          clear BK192
          clear BK196
          clear HB
          have HO184 := n0_
          have HO187 := n1_
          have HO191 := n2_
          have HO195 := n3_
          have BK178 := n4_
          have BK179 := n5_
          have BK192 := n6_
          have BK196 := n7_
          have HB := n8_
          clear n0_ n1_ n2_ n3_ n4_ n5_ n6_ n7_ n8_
          refine start_ (n := 5) (S := fun w' => w'.cell? ⟨gb192, 0, none⟩ = some (.slice Ao154 t189.length co154) ∧ w'.cell? ⟨gb178, 0, none⟩ = some (.slice A0_0 l0_0.length c0_0)) (ds := []) #[false, false, false, false, false] (by kernel_rfl) rfl rfl ⟨(blk_cell BK192.out 0).trans rfl, (blk_cell BK178.out 0).trans rfl⟩ (fun hHeld => ?_)
          generalize w167.drew = w168 at HO184 HO187 HO191 HO195 BK178 BK179 BK192 BK196 HB hHeld ⊢
          refine take_ (i := 0) (N := some 35) (v := ?_) (a' := ?_) #[true, false, false, false, false] rfl rfl (by kernel_rfl) (fun _ _ _ h => h) (Or.inl ⟨by rfl, ?_⟩) hHeld ?_ ?_
          rotate_left
          · rintro w' ⟨s0, s1⟩
            go_simp
            with_reducible rfl
          rotate_left
          · simp only [Act.put, List.setIfInBounds_toArray, List.set_cons_zero, List.set_cons_succ, i64_w, i32_w]
            rfl
          refine take_ (i := 1) (N := some 36) (v := ?_) (a' := ?_) #[true, true, false, false, false] rfl rfl (by kernel_rfl) (fun _ _ _ h => h) (Or.inl ⟨by rfl, ?_⟩) hHeld ?_ ?_
          rotate_left
          · rintro w' ⟨s0, s1⟩
            go_simp
            with_reducible rfl
          rotate_left
          · simp only [Act.put, List.setIfInBounds_toArray, List.set_cons_zero, List.set_cons_succ, i64_w, i32_w]
            rfl
          refine one_ (i := 2) (N := some 37) #[true, true, true, false, false] rfl rfl (by kernel_rfl) (by decide) (fun K hK => ?_)
          refine goes_ Try.func28 (by kernel_rfl) rfl #[.agg #[.slice A0_0 l0_0.length c0_0]] (by rfl) rfl rfl Kit.am ?_
          with_reducible refine (laws_toOrigin.calls k _ _ l0_0 t198 _ ?side1 ?side2 A56.out).mono ?_
          (case side1 => exact Kit.cx ((Kd.C_below HR0_0.out HB.out)))
          (case side2 => exact HC0_0.out)
          rintro e w169 ⟨v199, rfl, ho0, hb⟩
          refine ⟨_, rfl, ?_⟩
          have HO200 := Aside0.mk (Kd.S_lower (Kd.S_new' (Kd.S_new' (Kd.S_new' (Kd.S_new' ho0 (Kd.S_lt (Kit.sx HO184.out))) (Kd.S_lt (Kit.sx HO187.out))) (Kd.S_lt (Kit.sx HO191.out))) (Kd.S_lt (Kit.sx HO195.out))) Kit.bz)
          replace HO184 := Aside0.mk (Kd.S_elder' (Kit.sx HO184.out) (Kd.S_base ho0) hb)
          replace HO187 := Aside0.mk (Kd.S_elder' (Kit.sx HO187.out) (Kd.S_base ho0) hb)
          replace HO191 := Aside0.mk (Kd.S_elder' (Kit.sx HO191.out) (Kd.S_base ho0) hb)
          replace HO195 := Aside0.mk (Kd.S_elder' (Kit.sx HO195.out) (Kd.S_base ho0) hb)
          replace BK178 := Aside0.mk (Kit.bb BK178.out hb)
          replace BK179 := Aside0.mk (Kit.bb BK179.out hb)
          replace BK192 := Aside0.mk (Kit.bb BK192.out hb)
          replace BK196 := Aside0.mk (Kit.bb BK196.out hb)
          replace HB := Aside0.mk (below_step Kit.bl hb)
          (try clear hb)
          (try clear hb2)
          (try clear hk)
          (try clear hi)
          (try clear ho0)
          obtain ⟨Ao170, co170, eo170⟩ := Kd.S_slice HO200.out
          (first | subst eo170 | (injection eo170 with f1_ f2_ f3_; have f4_ := f1_.symm; have f5_ := f3_.symm; clear f1_ f2_ f3_; subst f4_; subst f5_))
          refine hK.out _ _ ⟨(blk_cell BK192.out 0).trans rfl, (blk_cell BK178.out 0).trans rfl⟩ (fun hHeld => ?_)
          clear hK K
          refine norm_ (a' := ?_) ?_ ?_
          rotate_left
          · show Act.put _ (some 37) _ = _
            simp only [Act.put, List.setIfInBounds_toArray, List.set_cons_zero, List.set_cons_succ, i64_w, i32_w]
            rfl
          refine one_ (i := 3) (N := some 38) #[true, true, true, true, false] rfl rfl (by kernel_rfl) (by decide) (fun K hK => ?_)
          refine goes_ Try.func30 (by kernel_rfl) rfl #[.agg #[.slice Ao154 t189.length co154], .agg #[.slice Ao170 t198.length co170]] (by rfl) rfl rfl Kit.am ?_
          with_reducible refine (laws_eqOrigin.calls k _ _ t189 _ _ t198 false _ ?side1 ?side2 ?side3 ?side4 A57.out).mono ?_
          (case side1 => exact Kit.cx ((Kd.S_reads' HO191.out).2.2))
          (case side2 => exact (Kd.S_reads' HO191.out).2.1)
          (case side3 => exact Kit.cx ((Kd.S_reads' HO200.out).2.2))
          (case side4 => exact (Kd.S_reads' HO200.out).2.1)
          rintro e w171 ⟨rfl, hb⟩
          refine ⟨_, rfl, ?_⟩
          replace HO184 := Aside0.mk (Kd.S_below (Kit.sx HO184.out) hb)
          replace HO187 := Aside0.mk (Kd.S_below (Kit.sx HO187.out) hb)
          replace HO191 := Aside0.mk (Kd.S_below (Kit.sx HO191.out) hb)
          replace HO195 := Aside0.mk (Kd.S_below (Kit.sx HO195.out) hb)
          replace HO200 := Aside0.mk (Kd.S_below (Kit.sx HO200.out) hb)
          replace BK178 := Aside0.mk (Kit.bb BK178.out hb)
          replace BK179 := Aside0.mk (Kit.bb BK179.out hb)
          replace BK192 := Aside0.mk (Kit.bb BK192.out hb)
          replace BK196 := Aside0.mk (Kit.bb BK196.out hb)
          replace HB := Aside0.mk (below_step Kit.bl hb)
          (try clear hb)
          (try clear hb2)
          (try clear hk)
          (try clear hi)
          refine hK.out _ _ ⟨(blk_cell BK192.out 0).trans rfl, (blk_cell BK178.out 0).trans rfl⟩ (fun hHeld => ?_)
          clear hK K
          refine norm_ (a' := ?_) ?_ ?_
          rotate_left
          · show Act.put _ (some 38) _ = _
            simp only [Act.put, List.setIfInBounds_toArray, List.set_cons_zero, List.set_cons_succ, i64_w, i32_w]
            rfl
          refine pure_ (i := 4) (N := some 39) (v := ?_) (a' := ?_) #[true, true, true, true, true] rfl rfl (by kernel_rfl) (fun _ _ _ h => h) (Or.inl ⟨by rfl, ?_⟩) ?_ ?_
          rotate_left
          · intro w'
            go_simp
            with_reducible rfl
          rotate_left
          · simp only [Act.put, List.setIfInBounds_toArray, List.set_cons_zero, List.set_cons_succ, i64_w, i32_w]
            rfl
          refine done_ (by kernel_rfl) ?_
          try go_wp2
          go_ret
          exact ⟨Kit.er, Kit.bl⟩

/-- THE ONE PURE STATEMENT of laws_FnExactSameOrigin. -/
def laws_FnExactSameOrigin.Pure : Prop := ∀ (x0 : S33) (x1 : S33), F33 x0 → F33 x1 → ∃ k, laws_FnExactSameOrigin.f k x0.f0 x1.f0 = some true
theorem laws_FnExactSameOrigin.walk (P : laws_FnExactSameOrigin.Pure) (x0 : S33) (cs0 : List Value) (x1 : S33) (cs1 : List Value) (w : World) (hk0 : k33.K w x0 cs0) (hf0 : F33 x0) (hk1 : k33.K w x1 cs1) (hf1 : F33 x1) :
    Calls Try.prog 11 #[.agg cs0.toArray, .agg cs1.toArray] w fun e w' => e = .returned (.bool true) ∧ Below w.heap.size w w' := by
  obtain ⟨A0_0, c0_0, rfl, l0_0, g0_0⟩ := k33_open hk0
  obtain ⟨A1_0, c1_0, rfl, l1_0, g1_0⟩ := k33_open hk1
  obtain ⟨k, h⟩ := P x0 x1 hf0 hf1
  refine (laws_FnExactSameOrigin.calls k A0_0 c0_0 x0.f0 A1_0 c1_0 x1.f0 true w g0_0 l0_0 g1_0 l1_0 h).mono ?_
  rintro e w' ⟨rfl, hd⟩
  exact ⟨rfl, hd⟩

end Go.Proofs.Ytlhnhilaeoegoaa.QFnExactSameOrigin
