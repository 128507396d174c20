-- Written by own.py, a program of this session's own, which calls the kit's print. Lean checks it.
import Derived.Test.YtlhnhilaeoegoaaQFnExactSameShardx0
import Derived.Test.YtlhnhilaeoegoaaQFnExactSameShardx3
import Derived.Test.YtlhnhilaeoegoaaQFnExactSameShardx4
import Derived.Test.YtlhnhilaeoegoaaQFnExactSameShardx5
import Derived.Test.YtlhnhilaeoegoaaQFnExactSameShardx6
import Derived.Test.YtlhnhilaeoegoaaQFnExactSameShardx7
namespace Go.Proofs.Ytlhnhilaeoegoaa.QFnExactSameShard
open Go.RowKit Go.Proofs.YtlhnhilaeoegoaaW.PrintWords Go.Proofs.YtlhnhilaeoegoaaW.PrintLast Go.Proofs.YtlhnhilaeoegoaaW.PrintMore
attribute [local go_sem] Kit.run_store_one max2_int min2_int max_two min_two max_three min_three max_four min_four   -- for this text's walks alone
set_option linter.unusedVariables false
set_option linter.unusedSimpArgs false

/-! ### laws_FnExactSameShard: function 12 -/
def laws_FnExactSameShard.f (k : Nat) (a0_0 : Int) (a0_1 : Int) (l0_2 : List (S109)) (a0_3 : Int) (a1_0 : Int) (a1_1 : Int) (l1_2 : List (S109)) (a1_3 : Int) : Option (Bool) := (laws_szShard.f k a0_0 a0_1 l0_2 a0_3 1048576).bind fun t240 => (if t240 < 0 then (some true) else ((laws_szShard.f k a1_0 a1_1 l1_2 a1_3 t240).bind fun t241 => (if t241 < 0 then (some true) else ((laws_toShard.f k a0_0 a0_1 l0_2 a0_3).bind fun bt242 => ((laws_toShard.f k a1_0 a1_1 l1_2 a1_3).bind fun bt248 => ((spec_SameShard.f k bt242.1 bt242.2.1 bt242.2.2.1 bt242.2.2.2 bt248.1 bt248.2.1 bt248.2.2.1 bt248.2.2.2).bind fun t254 => ((laws_toShard.f k a0_0 a0_1 l0_2 a0_3).bind fun bt255 => ((laws_toShard.f k a1_0 a1_1 l1_2 a1_3).bind fun bt262 => ((impl_SameShard.f k bt255.1 bt255.2.1 bt255.2.2.1 bt255.2.2.2 bt262.1 bt262.2.1 bt262.2.2.1 bt262.2.2.2).bind fun t269 => (if (t269 != t254) = true then (some false) else ((laws_toShard.f k a0_0 a0_1 l0_2 a0_3).bind fun bt270 => ((laws_eqShard.f k bt255.1 bt255.2.1 bt255.2.2.1 bt255.2.2.2 bt270.1 bt270.2.1 bt270.2.2.1 bt270.2.2.2).bind fun t276 => (if t276 = true then ((laws_toShard.f k a1_0 a1_1 l1_2 a1_3).bind fun bt277 => ((laws_eqShard.f k bt262.1 bt262.2.1 bt262.2.2.1 bt262.2.2.2 bt277.1 bt277.2.1 bt277.2.2.1 bt277.2.2.2).bind fun t283 => (if t283 = true then (some true) else (some false)))) else (some false))))))))))))))
theorem laws_FnExactSameShard.mono : ∀ a0 a1 a2 a3 a4 a5 a6 a7 k, LeO (laws_FnExactSameShard.f k a0 a1 a2 a3 a4 a5 a6 a7) (laws_FnExactSameShard.f (k + 1) a0 a1 a2 a3 a4 a5 a6 a7) := by
  intro a0 a1 a2 a3 a4 a5 a6 a7 k
  unfold laws_FnExactSameShard.f
  repeat' first
      | (with_reducible exact impl_SameShard.mono _ _ _ _ _ _ _ _ _)
      | (with_reducible exact laws_eqShard.mono _ _ _ _ _ _ _ _ _)
      | (with_reducible exact laws_szShard.mono _ _ _ _ _ _)
      | (with_reducible exact laws_toShard.mono _ _ _ _ _)
      | (with_reducible exact spec_SameShard.mono _ _ _ _ _ _ _ _ _)
      | (with_reducible exact LeO.refl _)
      | (with_reducible exact LeO.none _)
      | (with_reducible refine LeO.ite ?_ ?_)
      | (with_reducible refine LeO.bind ?_ (fun _ => ?_))
      | exact impl_SameShard.mono _ _ _ _ _ _ _ _ _
      | exact laws_eqShard.mono _ _ _ _ _ _ _ _ _
      | exact laws_szShard.mono _ _ _ _ _ _
      | exact laws_toShard.mono _ _ _ _ _
      | exact spec_SameShard.mono _ _ _ _ _ _ _ _ _
      | exact LeO.none _
      | refine LeO.ite ?_ ?_
      | refine LeO.bind ?_ (fun _ => ?_)
set_option maxHeartbeats 8000000 in
set_option maxRecDepth 100000 in
theorem laws_FnExactSameShard.calls (k : Nat) (a0_0 : Int) (a0_1 : Int) (A0_2 : Option Addr) (c0_2 : Nat) (l0_2 : List (S109)) (a0_3 : Int) (a1_0 : Int) (a1_1 : Int) (A1_2 : Option Addr) (c1_2 : Nat) (l1_2 : List (S109)) (a1_3 : Int) (r : Bool) (w : World) (hr0_2 : Kd.C k109 w A0_2 l0_2.length l0_2) (hc0_2 : l0_2.length ≤ c0_2) (hr1_2 : Kd.C k109 w A1_2 l1_2.length l1_2) (hc1_2 : l1_2.length ≤ c1_2) (h : laws_FnExactSameShard.f k a0_0 a0_1 l0_2 a0_3 a1_0 a1_1 l1_2 a1_3 = some r) :
    Calls Try.prog 12 #[.agg #[.int .i64 a0_0, .int .i64 a0_1, .slice A0_2 l0_2.length c0_2, .int .i64 a0_3], .agg #[.int .i64 a1_0, .int .i64 a1_1, .slice A1_2 l1_2.length c1_2, .int .i64 a1_3]] w fun e w' => e = .returned (.bool r) ∧ Below w.heap.size w w' := by
  have hu59 := Try.underlying59
  have hu51 := Try.underlying51
  have HR0_2 := Aside0.mk hr0_2
  have HC0_2 := Aside0.mk hc0_2
  clear hr0_2 hc0_2
  have HR1_2 := Aside0.mk hr1_2
  have HC1_2 := Aside0.mk hc1_2
  clear hr1_2 hc1_2
  have HB := Aside0.mk (Below.refl w.heap.size w)
  have H : ((laws_szShard.f k a0_0 a0_1 l0_2 a0_3 1048576).bind fun t240 => (if t240 < 0 then (some true) else ((laws_szShard.f k a1_0 a1_1 l1_2 a1_3 t240).bind fun t241 => (if t241 < 0 then (some true) else ((laws_toShard.f k a0_0 a0_1 l0_2 a0_3).bind fun bt242 => ((laws_toShard.f k a1_0 a1_1 l1_2 a1_3).bind fun bt248 => ((spec_SameShard.f k bt242.1 bt242.2.1 bt242.2.2.1 bt242.2.2.2 bt248.1 bt248.2.1 bt248.2.2.1 bt248.2.2.2).bind fun t254 => ((laws_toShard.f k a0_0 a0_1 l0_2 a0_3).bind fun bt255 => ((laws_toShard.f k a1_0 a1_1 l1_2 a1_3).bind fun bt262 => ((impl_SameShard.f k bt255.1 bt255.2.1 bt255.2.2.1 bt255.2.2.2 bt262.1 bt262.2.1 bt262.2.2.1 bt262.2.2.2).bind fun t269 => (if (t269 != t254) = true then (some false) else ((laws_toShard.f k a0_0 a0_1 l0_2 a0_3).bind fun bt270 => ((laws_eqShard.f k bt255.1 bt255.2.1 bt255.2.2.1 bt255.2.2.2 bt270.1 bt270.2.1 bt270.2.2.1 bt270.2.2.2).bind fun t276 => (if t276 = true then ((laws_toShard.f k a1_0 a1_1 l1_2 a1_3).bind fun bt277 => ((laws_eqShard.f k bt262.1 bt262.2.1 bt262.2.2.1 bt262.2.2.2 bt277.1 bt277.2.1 bt277.2.2.1 bt277.2.2.2).bind fun t283 => (if t283 = true then (some true) else (some false)))) else (some false))))))))))))))) = some r := h
  clear h
  replace H := Option.bind_eq_some_iff.mp H
  obtain ⟨t240, A30, H⟩ := H
  replace H : (if t240 < 0 then (some true) else ((laws_szShard.f k a1_0 a1_1 l1_2 a1_3 t240).bind fun t241 => (if t241 < 0 then (some true) else ((laws_toShard.f k a0_0 a0_1 l0_2 a0_3).bind fun bt242 => ((laws_toShard.f k a1_0 a1_1 l1_2 a1_3).bind fun bt248 => ((spec_SameShard.f k bt242.1 bt242.2.1 bt242.2.2.1 bt242.2.2.2 bt248.1 bt248.2.1 bt248.2.2.1 bt248.2.2.2).bind fun t254 => ((laws_toShard.f k a0_0 a0_1 l0_2 a0_3).bind fun bt255 => ((laws_toShard.f k a1_0 a1_1 l1_2 a1_3).bind fun bt262 => ((impl_SameShard.f k bt255.1 bt255.2.1 bt255.2.2.1 bt255.2.2.2 bt262.1 bt262.2.1 bt262.2.2.1 bt262.2.2.2).bind fun t269 => (if (t269 != t254) = true then (some false) else ((laws_toShard.f k a0_0 a0_1 l0_2 a0_3).bind fun bt270 => ((laws_eqShard.f k bt255.1 bt255.2.1 bt255.2.2.1 bt255.2.2.2 bt270.1 bt270.2.1 bt270.2.2.1 bt270.2.2.2).bind fun t276 => (if t276 = true then ((laws_toShard.f k a1_0 a1_1 l1_2 a1_3).bind fun bt277 => ((laws_eqShard.f k bt262.1 bt262.2.1 bt262.2.2.1 bt262.2.2.2 bt277.1 bt277.2.1 bt277.2.2.1 bt277.2.2.2).bind fun t283 => (if t283 = true then (some true) else (some false)))) else (some false)))))))))))))) = some r := H
  have A3 := Aside0.mk A30
  clear A30
  by_cases c4 : t240 < 0
  · rw [if_pos c4] at H
    have c4b0 : decide (t240 < 0) = true := decide_eq_true c4
    clear c4
    obtain rfl := Option.some.inj H
    go_enter Try.func12, Try.ntmps12
    go_wp2_with (first | ((with_reducible refine gate_dst (N := 2) rfl ?_); refine box_event ?hg (N := 2) ?hd (cs := #[.int .i64 a0_0, .int .i64 a0_1, .slice A0_2 l0_2.length c0_2, .int .i64 a0_3]) (t := 59) ?hr ?_; (case hd => rfl); (case hg => rfl); (case hr => exact Kit.hr); intro gb238 hg w5 hbox hb; have BK238 := Aside0.mk (hbox); have GW238 := Aside0.mk (Kit.gx (w := w) hg); have GE238 := Aside0.mk (Kit.gx (w := w) hg); replace HB := Aside0.mk (below_step Kit.bl hb); clear hb hbox hg) | ((with_reducible refine gate_dst (N := 3) rfl ?_); refine box_event ?hg (N := 3) ?hd (cs := #[.int .i64 a1_0, .int .i64 a1_1, .slice A1_2 l1_2.length c1_2, .int .i64 a1_3]) (t := 59) ?hr ?_; (case hd => rfl); (case hg => rfl); (case hr => exact Kit.hr); intro gb239 hg w6 hbox hb; have BK239 := Aside0.mk (hbox); have GW239 := Aside0.mk (Kit.gx (w := w) hg); have GE239 := Aside0.mk (Kit.gx (w := w) hg); replace HB := Aside0.mk (below_step Kit.bl hb); have NB238_239 := Aside0.mk (Kit.nlt hg BK238.out); have NB239_238 := Aside0.mk (Kit.ngt hg BK238.out); replace BK238 := Aside0.mk (Kit.bb BK238.out hb); clear hb hbox hg; have hnb7 := NB238_239.out; have hnc7 := NB239_238.out; obtain ⟨hcz8_0, hcz8_1, hcz8_2, hcz8_3, hfz8_0, hfz8_1, hfz8_2, hfz8_3⟩ := Kit.c4 BK238.out) | ((with_reducible refine gate_callee (f := 42) rfl ?_); refine goesL_ (some 12) rfl rfl Try.func42 (by kernel_rfl) rfl #[.agg #[.int .i64 a0_0, .int .i64 a0_1, .slice A0_2 l0_2.length c0_2, .int .i64 a0_3], .int .i64 1048576] rfl Kit.am ?_; (with_reducible refine (laws_szShard.calls k a0_0 a0_1 _ _ l0_2 a0_3 1048576 t240 _ ?side1 ?side2 A3.out).mono ?_); (case side1 => exact Kit.cx ((Kd.C_below HR0_2.out HB.out))); (case side2 => exact HC0_2.out); rintro e w9 ⟨rfl, hb⟩; refine ⟨_, rfl, ?_⟩; replace BK238 := Aside0.mk (Kit.bb BK238.out hb); replace BK239 := Aside0.mk (Kit.bb BK239.out hb); replace HB := Aside0.mk (below_step Kit.bl hb); (try clear hb); (try clear hb2); (try clear hk); (try clear hi)))
    go_ret
    exact ⟨Kit.er, Kit.bl⟩
  · rw [if_neg c4] at H
    have c4b0 : decide (t240 < 0) = false := decide_eq_false c4
    clear c4
    replace H := Option.bind_eq_some_iff.mp H
    obtain ⟨t241, A100, H⟩ := H
    replace H : (if t241 < 0 then (some true) else ((laws_toShard.f k a0_0 a0_1 l0_2 a0_3).bind fun bt242 => ((laws_toShard.f k a1_0 a1_1 l1_2 a1_3).bind fun bt248 => ((spec_SameShard.f k bt242.1 bt242.2.1 bt242.2.2.1 bt242.2.2.2 bt248.1 bt248.2.1 bt248.2.2.1 bt248.2.2.2).bind fun t254 => ((laws_toShard.f k a0_0 a0_1 l0_2 a0_3).bind fun bt255 => ((laws_toShard.f k a1_0 a1_1 l1_2 a1_3).bind fun bt262 => ((impl_SameShard.f k bt255.1 bt255.2.1 bt255.2.2.1 bt255.2.2.2 bt262.1 bt262.2.1 bt262.2.2.1 bt262.2.2.2).bind fun t269 => (if (t269 != t254) = true then (some false) else ((laws_toShard.f k a0_0 a0_1 l0_2 a0_3).bind fun bt270 => ((laws_eqShard.f k bt255.1 bt255.2.1 bt255.2.2.1 bt255.2.2.2 bt270.1 bt270.2.1 bt270.2.2.1 bt270.2.2.2).bind fun t276 => (if t276 = true then ((laws_toShard.f k a1_0 a1_1 l1_2 a1_3).bind fun bt277 => ((laws_eqShard.f k bt262.1 bt262.2.1 bt262.2.2.1 bt262.2.2.2 bt277.1 bt277.2.1 bt277.2.2.1 bt277.2.2.2).bind fun t283 => (if t283 = true then (some true) else (some false)))) else (some false)))))))))))) = some r := H
    have A10 := Aside0.mk A100
    clear A100
    by_cases c11 : t241 < 0
    · rw [if_pos c11] at H
      have c11b0 : decide (t241 < 0) = true := decide_eq_true c11
      clear c11
      obtain rfl := Option.some.inj H
      go_enter Try.func12, Try.ntmps12
      go_wp2_with (first | ((with_reducible refine gate_dst (N := 2) rfl ?_); refine box_event ?hg (N := 2) ?hd (cs := #[.int .i64 a0_0, .int .i64 a0_1, .slice A0_2 l0_2.length c0_2, .int .i64 a0_3]) (t := 59) ?hr ?_; (case hd => rfl); (case hg => rfl); (case hr => exact Kit.hr); intro gb238 hg w12 hbox hb; have BK238 := Aside0.mk (hbox); have GW238 := Aside0.mk (Kit.gx (w := w) hg); have GE238 := Aside0.mk (Kit.gx (w := w) hg); replace HB := Aside0.mk (below_step Kit.bl hb); clear hb hbox hg) | ((with_reducible refine gate_dst (N := 3) rfl ?_); refine box_event ?hg (N := 3) ?hd (cs := #[.int .i64 a1_0, .int .i64 a1_1, .slice A1_2 l1_2.length c1_2, .int .i64 a1_3]) (t := 59) ?hr ?_; (case hd => rfl); (case hg => rfl); (case hr => exact Kit.hr); intro gb239 hg w13 hbox hb; have BK239 := Aside0.mk (hbox); have GW239 := Aside0.mk (Kit.gx (w := w) hg); have GE239 := Aside0.mk (Kit.gx (w := w) hg); replace HB := Aside0.mk (below_step Kit.bl hb); have NB238_239 := Aside0.mk (Kit.nlt hg BK238.out); have NB239_238 := Aside0.mk (Kit.ngt hg BK238.out); replace BK238 := Aside0.mk (Kit.bb BK238.out hb); clear hb hbox hg; have hnb14 := NB238_239.out; have hnc14 := NB239_238.out; obtain ⟨hcz15_0, hcz15_1, hcz15_2, hcz15_3, hfz15_0, hfz15_1, hfz15_2, hfz15_3⟩ := Kit.c4 BK238.out) | ((with_reducible refine gate_callee (f := 42) rfl ?_); refine goesL_ (some 12) rfl rfl Try.func42 (by kernel_rfl) rfl #[.agg #[.int .i64 a0_0, .int .i64 a0_1, .slice A0_2 l0_2.length c0_2, .int .i64 a0_3], .int .i64 1048576] rfl Kit.am ?_; (with_reducible refine (laws_szShard.calls k a0_0 a0_1 _ _ l0_2 a0_3 1048576 t240 _ ?side1 ?side2 A3.out).mono ?_); (case side1 => exact Kit.cx ((Kd.C_below HR0_2.out HB.out))); (case side2 => exact HC0_2.out); rintro e w16 ⟨rfl, hb⟩; refine ⟨_, rfl, ?_⟩; replace BK238 := Aside0.mk (Kit.bb BK238.out hb); replace BK239 := Aside0.mk (Kit.bb BK239.out hb); replace HB := Aside0.mk (below_step Kit.bl hb); (try clear hb); (try clear hb2); (try clear hk); (try clear hi); obtain ⟨hcz17_0, hcz17_1, hcz17_2, hcz17_3, hfz17_0, hfz17_1, hfz17_2, hfz17_3⟩ := Kit.c4 BK239.out) | ((with_reducible refine gate_callee (f := 42) rfl ?_); refine goesL_ (some 17) rfl rfl Try.func42 (by kernel_rfl) rfl #[.agg #[.int .i64 a1_0, .int .i64 a1_1, .slice A1_2 l1_2.length c1_2, .int .i64 a1_3], .int .i64 t240] rfl Kit.am ?_; (with_reducible refine (laws_szShard.calls k a1_0 a1_1 _ _ l1_2 a1_3 t240 t241 _ ?side1 ?side2 A10.out).mono ?_); (case side1 => exact Kit.cx ((Kd.C_below HR1_2.out HB.out))); (case side2 => exact HC1_2.out); rintro e w18 ⟨rfl, hb⟩; refine ⟨_, rfl, ?_⟩; replace BK238 := Aside0.mk (Kit.bb BK238.out hb); replace BK239 := Aside0.mk (Kit.bb BK239.out hb); replace HB := Aside0.mk (below_step Kit.bl hb); (try clear hb); (try clear hb2); (try clear hk); (try clear hi)))
      go_ret
      exact ⟨Kit.er, Kit.bl⟩
    · rw [if_neg c11] at H
      have c11b0 : decide (t241 < 0) = false := decide_eq_false c11
      clear c11
      replace H := Option.bind_eq_some_iff.mp H
      obtain ⟨⟨t242, t243, t244, t247⟩, A190, H⟩ := H
      replace H : ((laws_toShard.f k a1_0 a1_1 l1_2 a1_3).bind fun bt248 => ((spec_SameShard.f k t242 t243 t244 t247 bt248.1 bt248.2.1 bt248.2.2.1 bt248.2.2.2).bind fun t254 => ((laws_toShard.f k a0_0 a0_1 l0_2 a0_3).bind fun bt255 => ((laws_toShard.f k a1_0 a1_1 l1_2 a1_3).bind fun bt262 => ((impl_SameShard.f k bt255.1 bt255.2.1 bt255.2.2.1 bt255.2.2.2 bt262.1 bt262.2.1 bt262.2.2.1 bt262.2.2.2).bind fun t269 => (if (t269 != t254) = true then (some false) else ((laws_toShard.f k a0_0 a0_1 l0_2 a0_3).bind fun bt270 => ((laws_eqShard.f k bt255.1 bt255.2.1 bt255.2.2.1 bt255.2.2.2 bt270.1 bt270.2.1 bt270.2.2.1 bt270.2.2.2).bind fun t276 => (if t276 = true then ((laws_toShard.f k a1_0 a1_1 l1_2 a1_3).bind fun bt277 => ((laws_eqShard.f k bt262.1 bt262.2.1 bt262.2.2.1 bt262.2.2.2 bt277.1 bt277.2.1 bt277.2.2.1 bt277.2.2.2).bind fun t283 => (if t283 = true then (some true) else (some false)))) else (some false)))))))))) = some r := H
      have A19 := Aside0.mk A190
      clear A190
      replace H := Option.bind_eq_some_iff.mp H
      obtain ⟨⟨t248, t249, t250, t253⟩, A200, H⟩ := H
      replace H : ((spec_SameShard.f k t242 t243 t244 t247 t248 t249 t250 t253).bind fun t254 => ((laws_toShard.f k a0_0 a0_1 l0_2 a0_3).bind fun bt255 => ((laws_toShard.f k a1_0 a1_1 l1_2 a1_3).bind fun bt262 => ((impl_SameShard.f k bt255.1 bt255.2.1 bt255.2.2.1 bt255.2.2.2 bt262.1 bt262.2.1 bt262.2.2.1 bt262.2.2.2).bind fun t269 => (if (t269 != t254) = true then (some false) else ((laws_toShard.f k a0_0 a0_1 l0_2 a0_3).bind fun bt270 => ((laws_eqShard.f k bt255.1 bt255.2.1 bt255.2.2.1 bt255.2.2.2 bt270.1 bt270.2.1 bt270.2.2.1 bt270.2.2.2).bind fun t276 => (if t276 = true then ((laws_toShard.f k a1_0 a1_1 l1_2 a1_3).bind fun bt277 => ((laws_eqShard.f k bt262.1 bt262.2.1 bt262.2.2.1 bt262.2.2.2 bt277.1 bt277.2.1 bt277.2.2.1 bt277.2.2.2).bind fun t283 => (if t283 = true then (some true) else (some false)))) else (some false))))))))) = some r := H
      have A20 := Aside0.mk A200
      clear A200
      replace H := Option.bind_eq_some_iff.mp H
      obtain ⟨t254, A210, H⟩ := H
      replace H : ((laws_toShard.f k a0_0 a0_1 l0_2 a0_3).bind fun bt255 => ((laws_toShard.f k a1_0 a1_1 l1_2 a1_3).bind fun bt262 => ((impl_SameShard.f k bt255.1 bt255.2.1 bt255.2.2.1 bt255.2.2.2 bt262.1 bt262.2.1 bt262.2.2.1 bt262.2.2.2).bind fun t269 => (if (t269 != t254) = true then (some false) else ((laws_toShard.f k a0_0 a0_1 l0_2 a0_3).bind fun bt270 => ((laws_eqShard.f k bt255.1 bt255.2.1 bt255.2.2.1 bt255.2.2.2 bt270.1 bt270.2.1 bt270.2.2.1 bt270.2.2.2).bind fun t276 => (if t276 = true then ((laws_toShard.f k a1_0 a1_1 l1_2 a1_3).bind fun bt277 => ((laws_eqShard.f k bt262.1 bt262.2.1 bt262.2.2.1 bt262.2.2.2 bt277.1 bt277.2.1 bt277.2.2.1 bt277.2.2.2).bind fun t283 => (if t283 = true then (some true) else (some false)))) else (some false)))))))) = some r := H
      have A21 := Aside0.mk A210
      clear A210
      replace H := Option.bind_eq_some_iff.mp H
      obtain ⟨⟨t255, t256, t257, t260⟩, A220, H⟩ := H
      replace H : ((laws_toShard.f k a1_0 a1_1 l1_2 a1_3).bind fun bt262 => ((impl_SameShard.f k t255 t256 t257 t260 bt262.1 bt262.2.1 bt262.2.2.1 bt262.2.2.2).bind fun t269 => (if (t269 != t254) = true then (some false) else ((laws_toShard.f k a0_0 a0_1 l0_2 a0_3).bind fun bt270 => ((laws_eqShard.f k t255 t256 t257 t260 bt270.1 bt270.2.1 bt270.2.2.1 bt270.2.2.2).bind fun t276 => (if t276 = true then ((laws_toShard.f k a1_0 a1_1 l1_2 a1_3).bind fun bt277 => ((laws_eqShard.f k bt262.1 bt262.2.1 bt262.2.2.1 bt262.2.2.2 bt277.1 bt277.2.1 bt277.2.2.1 bt277.2.2.2).bind fun t283 => (if t283 = true then (some true) else (some false)))) else (some false))))))) = some r := H
      have A22 := Aside0.mk A220
      clear A220
      replace H := Option.bind_eq_some_iff.mp H
      obtain ⟨⟨t262, t263, t264, t267⟩, A230, H⟩ := H
      replace H : ((impl_SameShard.f k t255 t256 t257 t260 t262 t263 t264 t267).bind fun t269 => (if (t269 != t254) = true then (some false) else ((laws_toShard.f k a0_0 a0_1 l0_2 a0_3).bind fun bt270 => ((laws_eqShard.f k t255 t256 t257 t260 bt270.1 bt270.2.1 bt270.2.2.1 bt270.2.2.2).bind fun t276 => (if t276 = true then ((laws_toShard.f k a1_0 a1_1 l1_2 a1_3).bind fun bt277 => ((laws_eqShard.f k t262 t263 t264 t267 bt277.1 bt277.2.1 bt277.2.2.1 bt277.2.2.2).bind fun t283 => (if t283 = true then (some true) else (some false)))) else (some false)))))) = some r := H
      have A23 := Aside0.mk A230
      clear A230
      replace H := Option.bind_eq_some_iff.mp H
      obtain ⟨t269, A240, H⟩ := H
      replace H : (if (t269 != t254) = true then (some false) else ((laws_toShard.f k a0_0 a0_1 l0_2 a0_3).bind fun bt270 => ((laws_eqShard.f k t255 t256 t257 t260 bt270.1 bt270.2.1 bt270.2.2.1 bt270.2.2.2).bind fun t276 => (if t276 = true then ((laws_toShard.f k a1_0 a1_1 l1_2 a1_3).bind fun bt277 => ((laws_eqShard.f k t262 t263 t264 t267 bt277.1 bt277.2.1 bt277.2.2.1 bt277.2.2.2).bind fun t283 => (if t283 = true then (some true) else (some false)))) else (some false))))) = some r := H
      have A24 := Aside0.mk A240
      clear A240
      by_cases c25 : (t269 != t254) = true
      · rw [if_pos c25] at H
        have c25b0 : (t269 != t254) = true := c25
        (try (have c25b1 : decide (t269 = t254) = false := by simpa using c25))
        (try (have c25b2 : (t269 == t254) = false := by simpa using c25))
        (try (have c25b3 : ¬ (t269 = t254) := by simpa using c25))
        clear c25
        obtain rfl := Option.some.inj H
        go_enter Try.func12, Try.ntmps12
        try go_wp2_with (first | ((with_reducible refine gate_dst (N := 2) rfl ?_); refine box_event ?hg (N := 2) ?hd (cs := #[.int .i64 a0_0, .int .i64 a0_1, .slice A0_2 l0_2.length c0_2, .int .i64 a0_3]) (t := 59) ?hr ?_; (case hd => rfl); (case hg => rfl); (case hr => exact Kit.hr); intro gb238 hg w26 hbox hb; have BK238 := Aside0.mk (hbox); have GW238 := Aside0.mk (Kit.gx (w := w) hg); have GE238 := Aside0.mk (Kit.gx (w := w) hg); replace HB := Aside0.mk (below_step Kit.bl hb); clear hb hbox hg) | ((with_reducible refine gate_dst (N := 3) rfl ?_); refine box_event ?hg (N := 3) ?hd (cs := #[.int .i64 a1_0, .int .i64 a1_1, .slice A1_2 l1_2.length c1_2, .int .i64 a1_3]) (t := 59) ?hr ?_; (case hd => rfl); (case hg => rfl); (case hr => exact Kit.hr); intro gb239 hg w27 hbox hb; have BK239 := Aside0.mk (hbox); have GW239 := Aside0.mk (Kit.gx (w := w) hg); have GE239 := Aside0.mk (Kit.gx (w := w) hg); replace HB := Aside0.mk (below_step Kit.bl hb); have NB238_239 := Aside0.mk (Kit.nlt hg BK238.out); have NB239_238 := Aside0.mk (Kit.ngt hg BK238.out); replace BK238 := Aside0.mk (Kit.bb BK238.out hb); clear hb hbox hg; have hnb28 := NB238_239.out; have hnc28 := NB239_238.out; obtain ⟨hcz29_0, hcz29_1, hcz29_2, hcz29_3, hfz29_0, hfz29_1, hfz29_2, hfz29_3⟩ := Kit.c4 BK238.out) | ((with_reducible refine gate_callee (f := 42) rfl ?_); refine goesL_ (some 12) rfl rfl Try.func42 (by kernel_rfl) rfl #[.agg #[.int .i64 a0_0, .int .i64 a0_1, .slice A0_2 l0_2.length c0_2, .int .i64 a0_3], .int .i64 1048576] rfl Kit.am ?_; (with_reducible refine (laws_szShard.calls k a0_0 a0_1 _ _ l0_2 a0_3 1048576 t240 _ ?side1 ?side2 A3.out).mono ?_); (case side1 => exact Kit.cx ((Kd.C_below HR0_2.out HB.out))); (case side2 => exact HC0_2.out); rintro e w30 ⟨rfl, hb⟩; refine ⟨_, rfl, ?_⟩; replace BK238 := Aside0.mk (Kit.bb BK238.out hb); replace BK239 := Aside0.mk (Kit.bb BK239.out hb); replace HB := Aside0.mk (below_step Kit.bl hb); (try clear hb); (try clear hb2); (try clear hk); (try clear hi); obtain ⟨hcz31_0, hcz31_1, hcz31_2, hcz31_3, hfz31_0, hfz31_1, hfz31_2, hfz31_3⟩ := Kit.c4 BK239.out) | ((with_reducible refine gate_callee (f := 42) rfl ?_); refine goesL_ (some 17) rfl rfl Try.func42 (by kernel_rfl) rfl #[.agg #[.int .i64 a1_0, .int .i64 a1_1, .slice A1_2 l1_2.length c1_2, .int .i64 a1_3], .int .i64 t240] rfl Kit.am ?_; (with_reducible refine (laws_szShard.calls k a1_0 a1_1 _ _ l1_2 a1_3 t240 t241 _ ?side1 ?side2 A10.out).mono ?_); (case side1 => exact Kit.cx ((Kd.C_below HR1_2.out HB.out))); (case side2 => exact HC1_2.out); rintro e w32 ⟨rfl, hb⟩; refine ⟨_, rfl, ?_⟩; replace BK238 := Aside0.mk (Kit.bb BK238.out hb); replace BK239 := Aside0.mk (Kit.bb BK239.out hb); replace HB := Aside0.mk (below_step Kit.bl hb); (try clear hb); (try clear hb2); (try clear hk); (try clear hi)))
        replace BK238 := Aside0.mk (blk_drew BK238.out)
        replace BK239 := Aside0.mk (blk_drew BK239.out)
        replace HB := Aside0.mk (below_drew1 HB.out)
        refine start_ (n := 6) (S := fun w' => w'.cell? ⟨gb238, 0, none⟩ = some (.int .i64 a0_0) ∧ w'.cell? ⟨gb238, 1, none⟩ = some (.int .i64 a0_1) ∧ w'.cell? ⟨gb238, 2, none⟩ = some (.slice A0_2 l0_2.length c0_2) ∧ w'.cell? ⟨gb238, 3, none⟩ = some (.int .i64 a0_3) ∧ w'.cell? ⟨gb239, 0, none⟩ = some (.int .i64 a1_0) ∧ w'.cell? ⟨gb239, 1, none⟩ = some (.int .i64 a1_1) ∧ w'.cell? ⟨gb239, 2, none⟩ = some (.slice A1_2 l1_2.length c1_2) ∧ w'.cell? ⟨gb239, 3, none⟩ = some (.int .i64 a1_3)) (ds := []) #[false, false, false, false, false, false] (by kernel_rfl) rfl rfl ⟨(blk_cell BK238.out 0).trans rfl, (blk_cell BK238.out 1).trans rfl, (blk_cell BK238.out 2).trans rfl, (blk_cell BK238.out 3).trans rfl, (blk_cell BK239.out 0).trans rfl, (blk_cell BK239.out 1).trans rfl, (blk_cell BK239.out 2).trans rfl, (blk_cell BK239.out 3).trans rfl⟩ (fun hHeld => ?_)
        generalize w32.drew = w33 at BK238 BK239 HB hHeld ⊢
        refine take_ (i := 0) (N := some 20) (v := ?_) (a' := ?_) #[true, false, false, false, false, false] rfl rfl (by kernel_rfl) (fun _ _ _ h => h) (Or.inl ⟨by rfl, ?_⟩) hHeld ?_ ?_
        rotate_left
        · rintro w' ⟨s0, s1, s2, s3, s4, s5, s6, s7⟩
          go_simp
          with_reducible rfl
        rotate_left
        · simp only [Act.put, List.setIfInBounds_toArray, List.set_cons_zero, List.set_cons_succ, i64_w, i32_w]
          rfl
        refine take_ (i := 2) (N := some 22) (v := ?_) (a' := ?_) #[true, false, true, false, false, false] rfl rfl (by kernel_rfl) (fun _ _ _ h => h) (Or.inl ⟨by rfl, ?_⟩) hHeld ?_ ?_
        rotate_left
        · rintro w' ⟨s0, s1, s2, s3, s4, s5, s6, s7⟩
          go_simp
          with_reducible rfl
        rotate_left
        · simp only [Act.put, List.setIfInBounds_toArray, List.set_cons_zero, List.set_cons_succ, i64_w, i32_w]
          rfl
        refine one_ (i := 1) (N := some 21) #[true, true, true, false, false, false] rfl rfl (by kernel_rfl) (by decide) (fun K hK => ?_)
        refine goes_ Try.func44 (by kernel_rfl) rfl #[.agg #[.int .i64 a0_0, .int .i64 a0_1, .slice A0_2 l0_2.length c0_2, .int .i64 a0_3]] (by rfl) rfl rfl Kit.am ?_
        with_reducible refine (laws_toShard.calls k a0_0 a0_1 _ _ l0_2 a0_3 t242 t243 t244 t247 _ ?side1 ?side2 A19.out).mono ?_
        (case side1 => exact Kit.cx ((Kd.C_below HR0_2.out HB.out)))
        (case side2 => exact HC0_2.out)
        rintro e w34 ⟨v245, rfl, ho0, hb⟩
        refine ⟨_, rfl, ?_⟩
        have HO246 := Aside0.mk (Kd.S_lower ho0 Kit.bz)
        replace BK238 := Aside0.mk (Kit.bb BK238.out hb)
        replace BK239 := Aside0.mk (Kit.bb BK239.out hb)
        replace HB := Aside0.mk (below_step Kit.bl hb)
        (try clear hb)
        (try clear hb2)
        (try clear hk)
        (try clear hi)
        (try clear ho0)
        refine hK.out _ _ ⟨(blk_cell BK238.out 0).trans rfl, (blk_cell BK238.out 1).trans rfl, (blk_cell BK238.out 2).trans rfl, (blk_cell BK238.out 3).trans rfl, (blk_cell BK239.out 0).trans rfl, (blk_cell BK239.out 1).trans rfl, (blk_cell BK239.out 2).trans rfl, (blk_cell BK239.out 3).trans rfl⟩ (fun hHeld => ?_)
        clear hK K
        refine norm_ (a' := ?_) ?_ ?_
        rotate_left
        · show Act.put _ (some 21) _ = _
          simp only [Act.put, List.setIfInBounds_toArray, List.set_cons_zero, List.set_cons_succ, i64_w, i32_w]
          rfl
        refine one_ (i := 3) (N := some 23) #[true, true, true, true, false, false] rfl rfl (by kernel_rfl) (by decide) (fun K hK => ?_)
        refine goes_ Try.func44 (by kernel_rfl) rfl #[.agg #[.int .i64 a1_0, .int .i64 a1_1, .slice A1_2 l1_2.length c1_2, .int .i64 a1_3]] (by rfl) rfl rfl Kit.am ?_
        with_reducible refine (laws_toShard.calls k a1_0 a1_1 _ _ l1_2 a1_3 t248 t249 t250 t253 _ ?side1 ?side2 A20.out).mono ?_
        (case side1 => exact Kit.cx ((Kd.C_below HR1_2.out HB.out)))
        (case side2 => exact HC1_2.out)
        rintro e w35 ⟨v251, rfl, ho0, hb⟩
        refine ⟨_, rfl, ?_⟩
        have HO252 := Aside0.mk (Kd.S_lower (Kd.S_new' ho0 (Kd.S_lt (Kit.sx HO246.out))) Kit.bz)
        replace HO246 := Aside0.mk (Kd.S_elder' (Kit.sx HO246.out) (Kd.S_base ho0) hb)
        replace BK238 := Aside0.mk (Kit.bb BK238.out hb)
        replace BK239 := Aside0.mk (Kit.bb BK239.out hb)
        replace HB := Aside0.mk (below_step Kit.bl hb)
        (try clear hb)
        (try clear hb2)
        (try clear hk)
        (try clear hi)
        (try clear ho0)
        obtain ⟨Ao36, co36, eo36⟩ := Kd.S_slice HO246.out
        (first | subst eo36 | (injection eo36 with f1_ f2_ f3_; have f4_ := f1_.symm; have f5_ := f3_.symm; clear f1_ f2_ f3_; subst f4_; subst f5_))
        obtain ⟨Ao37, co37, eo37⟩ := Kd.S_slice HO252.out
        (first | subst eo37 | (injection eo37 with f1_ f2_ f3_; have f4_ := f1_.symm; have f5_ := f3_.symm; clear f1_ f2_ f3_; subst f4_; subst f5_))
        refine hK.out _ _ ⟨(blk_cell BK238.out 0).trans rfl, (blk_cell BK238.out 1).trans rfl, (blk_cell BK238.out 2).trans rfl, (blk_cell BK238.out 3).trans rfl, (blk_cell BK239.out 0).trans rfl, (blk_cell BK239.out 1).trans rfl, (blk_cell BK239.out 2).trans rfl, (blk_cell BK239.out 3).trans rfl⟩ (fun hHeld => ?_)
        clear hK K
        refine norm_ (a' := ?_) ?_ ?_
        rotate_left
        · show Act.put _ (some 23) _ = _
          simp only [Act.put, List.setIfInBounds_toArray, List.set_cons_zero, List.set_cons_succ, i64_w, i32_w]
          rfl
        refine one_ (i := 4) (N := some 24) #[true, true, true, true, true, false] rfl rfl (by kernel_rfl) (by decide) (fun K hK => ?_)
        refine goes_ Try.func43 (by kernel_rfl) rfl #[.agg #[.int .i64 t242, .int .i64 t243, .slice Ao36 t244.length co36, .int .i64 t247], .agg #[.int .i64 t248, .int .i64 t249, .slice Ao37 t250.length co37, .int .i64 t253]] (by rfl) rfl rfl Kit.am ?_
        with_reducible refine (spec_SameShard.calls k t242 t243 _ _ t244 t247 t248 t249 _ _ t250 t253 t254 _ ?side1 ?side2 ?side3 ?side4 A21.out).mono ?_
        (case side1 => exact Kit.cx ((Kd.S_reads' HO246.out).2.2))
        (case side2 => exact (Kd.S_reads' HO246.out).2.1)
        (case side3 => exact Kit.cx ((Kd.S_reads' HO252.out).2.2))
        (case side4 => exact (Kd.S_reads' HO252.out).2.1)
        rintro e w38 ⟨rfl, hb⟩
        refine ⟨_, rfl, ?_⟩
        replace HO246 := Aside0.mk (Kd.S_below (Kit.sx HO246.out) hb)
        replace HO252 := Aside0.mk (Kd.S_below (Kit.sx HO252.out) hb)
        replace BK238 := Aside0.mk (Kit.bb BK238.out hb)
        replace BK239 := Aside0.mk (Kit.bb BK239.out hb)
        replace HB := Aside0.mk (below_step Kit.bl hb)
        (try clear hb)
        (try clear hb2)
        (try clear hk)
        (try clear hi)
        refine hK.out _ _ ⟨(blk_cell BK238.out 0).trans rfl, (blk_cell BK238.out 1).trans rfl, (blk_cell BK238.out 2).trans rfl, (blk_cell BK238.out 3).trans rfl, (blk_cell BK239.out 0).trans rfl, (blk_cell BK239.out 1).trans rfl, (blk_cell BK239.out 2).trans rfl, (blk_cell BK239.out 3).trans rfl⟩ (fun hHeld => ?_)
        clear hK K
        refine norm_ (a' := ?_) ?_ ?_
        rotate_left
        · show Act.put _ (some 24) _ = _
          simp only [Act.put, List.setIfInBounds_toArray, List.set_cons_zero, List.set_cons_succ, i64_w, i32_w]
          rfl
        refine pure_ (i := 5) (N := some 6) (v := ?_) (a' := ?_) #[true, true, true, true, true, true] rfl rfl (by kernel_rfl) (fun _ _ _ h => h) (Or.inl ⟨by rfl, ?_⟩) ?_ ?_
        rotate_left
        · intro w'
          go_simp
          with_reducible rfl
        rotate_left
        · simp only [Act.put, List.setIfInBounds_toArray, List.set_cons_zero, List.set_cons_succ, i64_w, i32_w]
          rfl
        refine done_ (by kernel_rfl) ?_
        obtain ⟨hcz39_0, hcz39_1, hcz39_2, hcz39_3, hfz39_0, hfz39_1, hfz39_2, hfz39_3⟩ := Kit.c4 BK238.out
        try go_wp2_with (first | ((with_reducible refine gate_callee (f := 44) rfl ?_); refine goesL_ (some 26) rfl rfl Try.func44 (by kernel_rfl) rfl #[.agg #[.int .i64 a0_0, .int .i64 a0_1, .slice A0_2 l0_2.length c0_2, .int .i64 a0_3]] rfl Kit.am ?_; (with_reducible refine (laws_toShard.calls k a0_0 a0_1 _ _ l0_2 a0_3 t255 t256 t257 t260 _ ?side1 ?side2 A22.out).mono ?_); (case side1 => exact Kit.cx ((Kd.C_below HR0_2.out HB.out))); (case side2 => exact HC0_2.out); rintro e w40 ⟨v258, rfl, ho0, hb⟩; refine ⟨_, rfl, ?_⟩; have one_v258 : (v258 : Value).oneCell' = true := Kit.ov0; have HO259 := Aside0.mk (Kd.S_lower (Kd.S_new' (Kd.S_new' ho0 (Kd.S_lt (Kit.sx HO246.out))) (Kd.S_lt (Kit.sx HO252.out))) Kit.bz); replace HO246 := Aside0.mk (Kd.S_elder' (Kit.sx HO246.out) (Kd.S_base ho0) hb); replace HO252 := Aside0.mk (Kd.S_elder' (Kit.sx HO252.out) (Kd.S_base ho0) hb); replace BK238 := Aside0.mk (Kit.bb BK238.out hb); replace BK239 := Aside0.mk (Kit.bb BK239.out hb); replace HB := Aside0.mk (below_step Kit.bl hb); (try clear hb); (try clear hb2); (try clear hk); (try clear hi); (try clear ho0)) | ((with_reducible refine gate_dst (N := 7) rfl ?_); refine box_event ?hg (N := 7) ?hd (cs := #[.int .i64 0, .int .i64 0, .slice none 0 0, .int .i64 0]) (t := 51) ?hr ?_; (case hd => rfl); (case hg => rfl); (case hr => exact Kit.hr); intro gb261 hg w41 hbox hb; replace HO246 := Aside0.mk (Kd.S_below (Kit.sx HO246.out) hb); replace HO252 := Aside0.mk (Kd.S_below (Kit.sx HO252.out) hb); replace HO259 := Aside0.mk (Kd.S_below (Kit.sx HO259.out) hb); have BK261 := Aside0.mk (hbox); have GW261 := Aside0.mk (Kit.gx (w := w) hg); have GE261 := Aside0.mk (Kit.gx (w := w) hg); replace HB := Aside0.mk (below_step Kit.bl hb); have NB238_261 := Aside0.mk (Kit.nlt hg BK238.out); have NB261_238 := Aside0.mk (Kit.ngt hg BK238.out); replace BK238 := Aside0.mk (Kit.bb BK238.out hb); have NB239_261 := Aside0.mk (Kit.nlt hg BK239.out); have NB261_239 := Aside0.mk (Kit.ngt hg BK239.out); replace BK239 := Aside0.mk (Kit.bb BK239.out hb); clear hb hbox hg; have hnb42 := NB261_238.out; have hnc42 := NB238_261.out; have hnb43 := NB261_239.out; have hnc43 := NB239_261.out; obtain ⟨hcz44_0, hcz44_1, hcz44_2, hcz44_3, hfz44_0, hfz44_1, hfz44_2, hfz44_3⟩ := Kit.c4 BK261.out; obtain ⟨Ao45, co45, eo45⟩ := Kd.S_slice HO259.out; subst eo45; obtain ⟨hcz46_0, hcz46_1, hcz46_2, hcz46_3, hfz46_0, hfz46_1, hfz46_2, hfz46_3⟩ := Kit.c4 BK239.out) | ((with_reducible refine gate_callee (f := 44) rfl ?_); refine goesL_ (some 28) rfl rfl Try.func44 (by kernel_rfl) rfl #[.agg #[.int .i64 a1_0, .int .i64 a1_1, .slice A1_2 l1_2.length c1_2, .int .i64 a1_3]] rfl Kit.am ?_; (with_reducible refine (laws_toShard.calls k a1_0 a1_1 _ _ l1_2 a1_3 t262 t263 t264 t267 _ ?side1 ?side2 A23.out).mono ?_); (case side1 => exact Kd.C_below HR1_2.out Kit.bl); (case side2 => exact HC1_2.out); rintro e w47 ⟨v265, rfl, ho0, hb⟩; refine ⟨_, rfl, ?_⟩; have one_v265 : (v265 : Value).oneCell' = true := Kit.ov0; have n0_ := Aside0.mk (Kd.S_elder' (by (with_reducible repeat (first | apply Kd.S_alloc | apply Kd.S_drewN | apply Kd.S_drew)); exact (Kd.S_mono (Kd.S_far (p := ⟨gb261, 3, none⟩) (Kd.S_far (p := ⟨gb261, 2, none⟩) (Kd.S_far (p := ⟨gb261, 1, none⟩) (Kd.S_far (p := ⟨gb261, 0, none⟩) (Kd.S_types HO246.out BK261.out (by decide)) (fun _ hk => hk.2) (.int .i64 t255)) (fun _ hk => hk.2) (.int .i64 t256)) (fun _ hk => hk.2) (.slice Ao45 t257.length co45)) (fun _ hk => hk.2) (.int .i64 t260)) (fun _ h_ => h_.1))) (Kd.S_base ho0) hb); have n1_ := Aside0.mk (Kd.S_elder' (by (with_reducible repeat (first | apply Kd.S_alloc | apply Kd.S_drewN | apply Kd.S_drew)); exact (Kd.S_mono (Kd.S_far (p := ⟨gb261, 3, none⟩) (Kd.S_far (p := ⟨gb261, 2, none⟩) (Kd.S_far (p := ⟨gb261, 1, none⟩) (Kd.S_far (p := ⟨gb261, 0, none⟩) (Kd.S_types HO252.out BK261.out (by decide)) (fun _ hk => hk.2) (.int .i64 t255)) (fun _ hk => hk.2) (.int .i64 t256)) (fun _ hk => hk.2) (.slice Ao45 t257.length co45)) (fun _ hk => hk.2) (.int .i64 t260)) (fun _ h_ => h_.1))) (Kd.S_base ho0) hb); have n2_ := Aside0.mk (Kd.S_elder' (by (with_reducible repeat (first | apply Kd.S_alloc | apply Kd.S_drewN | apply Kd.S_drew)); exact (Kd.S_mono (Kd.S_far (p := ⟨gb261, 3, none⟩) (Kd.S_far (p := ⟨gb261, 2, none⟩) (Kd.S_far (p := ⟨gb261, 1, none⟩) (Kd.S_far (p := ⟨gb261, 0, none⟩) (Kd.S_types HO259.out BK261.out (by decide)) (fun _ hk => hk.2) (.int .i64 t255)) (fun _ hk => hk.2) (.int .i64 t256)) (fun _ hk => hk.2) (.slice Ao45 t257.length co45)) (fun _ hk => hk.2) (.int .i64 t260)) (fun _ h_ => h_.1))) (Kd.S_base ho0) hb); have n3_ := Aside0.mk (Kd.S_lower (Kd.S_new' (Kd.S_new' (Kd.S_new' ho0 (Kd.S_lt (by (with_reducible repeat (first | apply Kd.S_alloc | apply Kd.S_drewN | apply Kd.S_drew)); exact (Kd.S_mono (Kd.S_far (p := ⟨gb261, 3, none⟩) (Kd.S_far (p := ⟨gb261, 2, none⟩) (Kd.S_far (p := ⟨gb261, 1, none⟩) (Kd.S_far (p := ⟨gb261, 0, none⟩) (Kd.S_types HO246.out BK261.out (by decide)) (fun _ hk => hk.2) (.int .i64 t255)) (fun _ hk => hk.2) (.int .i64 t256)) (fun _ hk => hk.2) (.slice Ao45 t257.length co45)) (fun _ hk => hk.2) (.int .i64 t260)) (fun _ h_ => h_.1))))) (Kd.S_lt (by (with_reducible repeat (first | apply Kd.S_alloc | apply Kd.S_drewN | apply Kd.S_drew)); exact (Kd.S_mono (Kd.S_far (p := ⟨gb261, 3, none⟩) (Kd.S_far (p := ⟨gb261, 2, none⟩) (Kd.S_far (p := ⟨gb261, 1, none⟩) (Kd.S_far (p := ⟨gb261, 0, none⟩) (Kd.S_types HO252.out BK261.out (by decide)) (fun _ hk => hk.2) (.int .i64 t255)) (fun _ hk => hk.2) (.int .i64 t256)) (fun _ hk => hk.2) (.slice Ao45 t257.length co45)) (fun _ hk => hk.2) (.int .i64 t260)) (fun _ h_ => h_.1))))) (Kd.S_lt (by (with_reducible repeat (first | apply Kd.S_alloc | apply Kd.S_drewN | apply Kd.S_drew)); exact (Kd.S_mono (Kd.S_far (p := ⟨gb261, 3, none⟩) (Kd.S_far (p := ⟨gb261, 2, none⟩) (Kd.S_far (p := ⟨gb261, 1, none⟩) (Kd.S_far (p := ⟨gb261, 0, none⟩) (Kd.S_types HO259.out BK261.out (by decide)) (fun _ hk => hk.2) (.int .i64 t255)) (fun _ hk => hk.2) (.int .i64 t256)) (fun _ hk => hk.2) (.slice Ao45 t257.length co45)) (fun _ hk => hk.2) (.int .i64 t260)) (fun _ h_ => h_.1))))) Kit.bz); have n4_ := Aside0.mk (Kit.bf BK238.out hb); have n5_ := Aside0.mk (Kit.bf BK239.out hb); have n6_ := Aside0.mk (blk_below (g := gb261) (o := .cells #[.int .i64 t255, .int .i64 t256, .slice Ao45 t257.length co45, .int .i64 t260] 51 (0, 0)) (by (with_reducible repeat (first | refine blk_drewN ?_ _ | refine blk_drew ?_ | refine blk_alloc ?_ _)); refine blk_put (cs := #[.int .i64 t255, .int .i64 t256, .slice Ao45 t257.length co45, .int .i64 0]) ?_ 3 _ rfl; (with_reducible repeat (first | refine blk_drewN ?_ _ | refine blk_drew ?_ | refine blk_alloc ?_ _)); refine blk_put (cs := #[.int .i64 t255, .int .i64 t256, .slice none 0 0, .int .i64 0]) ?_ 2 _ rfl; (with_reducible repeat (first | refine blk_drewN ?_ _ | refine blk_drew ?_ | refine blk_alloc ?_ _)); refine blk_put (cs := #[.int .i64 t255, .int .i64 0, .slice none 0 0, .int .i64 0]) ?_ 1 _ rfl; (with_reducible repeat (first | refine blk_drewN ?_ _ | refine blk_drew ?_ | refine blk_alloc ?_ _)); refine blk_put (cs := #[.int .i64 0, .int .i64 0, .slice none 0 0, .int .i64 0]) ?_ 0 _ rfl; (with_reducible repeat (first | refine blk_drewN ?_ _ | refine blk_drew ?_ | refine blk_alloc ?_ _)); exact BK261.out) hb); have n7_ := Aside0.mk (below_step Kit.bl hb); clear HO246; clear HO252; clear HO259; clear BK238; clear BK239; clear BK261; clear HB; have HO246 := n0_; have HO252 := n1_; have HO259 := n2_; have HO266 := n3_; have BK238 := n4_; have BK239 := n5_; have BK261 := n6_; have HB := n7_; clear n0_ n1_ n2_ n3_ n4_ n5_ n6_ n7_; (try clear hb); (try clear hb2); (try clear hk); (try clear hi); (try clear ho0)) | ((with_reducible refine gate_dst (N := 8) rfl ?_); refine box_event ?hg (N := 8) ?hd (cs := #[.int .i64 0, .int .i64 0, .slice none 0 0, .int .i64 0]) (t := 51) ?hr ?_; (case hd => rfl); (case hg => rfl); (case hr => exact Kit.hr); intro gb268 hg w48 hbox hb; replace HO246 := Aside0.mk (Kd.S_below (Kit.sx HO246.out) hb); replace HO252 := Aside0.mk (Kd.S_below (Kit.sx HO252.out) hb); replace HO259 := Aside0.mk (Kd.S_below (Kit.sx HO259.out) hb); replace HO266 := Aside0.mk (Kd.S_below (Kit.sx HO266.out) hb); have BK268 := Aside0.mk (hbox); have GW268 := Aside0.mk (Kit.gx (w := w) hg); have GE268 := Aside0.mk (Kit.gx (w := w) hg); replace HB := Aside0.mk (below_step Kit.bl hb); have NB238_268 := Aside0.mk (Kit.nlt hg BK238.out); have NB268_238 := Aside0.mk (Kit.ngt hg BK238.out); replace BK238 := Aside0.mk (Kit.bb BK238.out hb); have NB239_268 := Aside0.mk (Kit.nlt hg BK239.out); have NB268_239 := Aside0.mk (Kit.ngt hg BK239.out); replace BK239 := Aside0.mk (Kit.bb BK239.out hb); have NB261_268 := Aside0.mk (Kit.nlt hg BK261.out); have NB268_261 := Aside0.mk (Kit.ngt hg BK261.out); replace BK261 := Aside0.mk (Kit.bb BK261.out hb); clear hb hbox hg; have hnb49 := NB268_238.out; have hnc49 := NB238_268.out; have hnb50 := NB268_239.out; have hnc50 := NB239_268.out; have hnb51 := NB268_261.out; have hnc51 := NB261_268.out; obtain ⟨hcz52_0, hcz52_1, hcz52_2, hcz52_3, hfz52_0, hfz52_1, hfz52_2, hfz52_3⟩ := Kit.c4 BK268.out; obtain ⟨Ao53, co53, eo53⟩ := Kd.S_slice HO266.out; subst eo53; obtain ⟨hcz54_0, hcz54_1, hcz54_2, hcz54_3, hfz54_0, hfz54_1, hfz54_2, hfz54_3⟩ := Kit.c4 BK261.out) | ((with_reducible refine gate_callee (f := 45) rfl ?_); refine goesL_ (some 31) rfl rfl Try.func45 (by kernel_rfl) rfl #[.agg #[.int .i64 t255, .int .i64 t256, .slice Ao45 t257.length co45, .int .i64 t260], .agg #[.int .i64 t262, .int .i64 t263, .slice Ao53 t264.length co53, .int .i64 t267]] rfl Kit.am ?_; (with_reducible refine (impl_SameShard.calls k t255 t256 _ _ t257 t260 t262 t263 _ _ t264 t267 t269 _ ?side1 ?side2 ?side3 ?side4 A24.out).mono ?_); (case side1 => refine (Kd.S_reads' (e := 87) (base := w.heap.size) (ok := fun k_ => (((True ∧ some k_ ≠ (.slice Ao36 t244.length co36 : Value).ownBlock) ∧ some k_ ≠ (.slice Ao37 t250.length co37 : Value).ownBlock) ∧ some k_ ≠ (.slice Ao53 t264.length co53 : Value).ownBlock)) (n := t257.length) (c := co45) ?_).2.2; exact (by (with_reducible repeat (first | apply Kd.S_alloc | apply Kd.S_drewN | apply Kd.S_drew)); exact (Kd.S_mono (Kd.S_far (p := ⟨gb268, 3, none⟩) (Kd.S_far (p := ⟨gb268, 2, none⟩) (Kd.S_far (p := ⟨gb268, 1, none⟩) (Kd.S_far (p := ⟨gb268, 0, none⟩) (Kd.S_types HO259.out BK268.out (by decide)) (fun _ hk => hk.2) (.int .i64 t262)) (fun _ hk => hk.2) (.int .i64 t263)) (fun _ hk => hk.2) (.slice Ao53 t264.length co53)) (fun _ hk => hk.2) (.int .i64 t267)) (fun _ h_ => h_.1)))); (case side2 => exact (Kd.S_reads' HO259.out).2.1); (case side3 => refine (Kd.S_reads' (e := 87) (base := w.heap.size) (ok := fun k_ => (((True ∧ some k_ ≠ (.slice Ao36 t244.length co36 : Value).ownBlock) ∧ some k_ ≠ (.slice Ao37 t250.length co37 : Value).ownBlock) ∧ some k_ ≠ (.slice Ao45 t257.length co45 : Value).ownBlock)) (n := t264.length) (c := co53) ?_).2.2; exact (by (with_reducible repeat (first | apply Kd.S_alloc | apply Kd.S_drewN | apply Kd.S_drew)); exact (Kd.S_mono (Kd.S_far (p := ⟨gb268, 3, none⟩) (Kd.S_far (p := ⟨gb268, 2, none⟩) (Kd.S_far (p := ⟨gb268, 1, none⟩) (Kd.S_far (p := ⟨gb268, 0, none⟩) (Kd.S_types HO266.out BK268.out (by decide)) (fun _ hk => hk.2) (.int .i64 t262)) (fun _ hk => hk.2) (.int .i64 t263)) (fun _ hk => hk.2) (.slice Ao53 t264.length co53)) (fun _ hk => hk.2) (.int .i64 t267)) (fun _ h_ => h_.1)))); (case side4 => exact (Kd.S_reads' HO266.out).2.1); rintro e w55 ⟨rfl, hb⟩; refine ⟨_, rfl, ?_⟩; have n0_ := Aside0.mk (Kd.S_below (by (with_reducible repeat (first | apply Kd.S_alloc | apply Kd.S_drewN | apply Kd.S_drew)); exact (Kd.S_mono (Kd.S_far (p := ⟨gb268, 3, none⟩) (Kd.S_far (p := ⟨gb268, 2, none⟩) (Kd.S_far (p := ⟨gb268, 1, none⟩) (Kd.S_far (p := ⟨gb268, 0, none⟩) (Kd.S_types HO246.out BK268.out (by decide)) (fun _ hk => hk.2) (.int .i64 t262)) (fun _ hk => hk.2) (.int .i64 t263)) (fun _ hk => hk.2) (.slice Ao53 t264.length co53)) (fun _ hk => hk.2) (.int .i64 t267)) (fun _ h_ => h_.1))) hb); have n1_ := Aside0.mk (Kd.S_below (by (with_reducible repeat (first | apply Kd.S_alloc | apply Kd.S_drewN | apply Kd.S_drew)); exact (Kd.S_mono (Kd.S_far (p := ⟨gb268, 3, none⟩) (Kd.S_far (p := ⟨gb268, 2, none⟩) (Kd.S_far (p := ⟨gb268, 1, none⟩) (Kd.S_far (p := ⟨gb268, 0, none⟩) (Kd.S_types HO252.out BK268.out (by decide)) (fun _ hk => hk.2) (.int .i64 t262)) (fun _ hk => hk.2) (.int .i64 t263)) (fun _ hk => hk.2) (.slice Ao53 t264.length co53)) (fun _ hk => hk.2) (.int .i64 t267)) (fun _ h_ => h_.1))) hb); have n2_ := Aside0.mk (Kd.S_below (by (with_reducible repeat (first | apply Kd.S_alloc | apply Kd.S_drewN | apply Kd.S_drew)); exact (Kd.S_mono (Kd.S_far (p := ⟨gb268, 3, none⟩) (Kd.S_far (p := ⟨gb268, 2, none⟩) (Kd.S_far (p := ⟨gb268, 1, none⟩) (Kd.S_far (p := ⟨gb268, 0, none⟩) (Kd.S_types HO259.out BK268.out (by decide)) (fun _ hk => hk.2) (.int .i64 t262)) (fun _ hk => hk.2) (.int .i64 t263)) (fun _ hk => hk.2) (.slice Ao53 t264.length co53)) (fun _ hk => hk.2) (.int .i64 t267)) (fun _ h_ => h_.1))) hb); have n3_ := Aside0.mk (Kd.S_below (by (with_reducible repeat (first | apply Kd.S_alloc | apply Kd.S_drewN | apply Kd.S_drew)); exact (Kd.S_mono (Kd.S_far (p := ⟨gb268, 3, none⟩) (Kd.S_far (p := ⟨gb268, 2, none⟩) (Kd.S_far (p := ⟨gb268, 1, none⟩) (Kd.S_far (p := ⟨gb268, 0, none⟩) (Kd.S_types HO266.out BK268.out (by decide)) (fun _ hk => hk.2) (.int .i64 t262)) (fun _ hk => hk.2) (.int .i64 t263)) (fun _ hk => hk.2) (.slice Ao53 t264.length co53)) (fun _ hk => hk.2) (.int .i64 t267)) (fun _ h_ => h_.1))) hb); have n4_ := Aside0.mk (Kit.bf BK238.out hb); have n5_ := Aside0.mk (Kit.bf BK239.out hb); have n6_ := Aside0.mk (Kit.bf BK261.out hb); have n7_ := Aside0.mk (blk_below (g := gb268) (o := .cells #[.int .i64 t262, .int .i64 t263, .slice Ao53 t264.length co53, .int .i64 t267] 51 (0, 0)) (by (with_reducible repeat (first | refine blk_drewN ?_ _ | refine blk_drew ?_ | refine blk_alloc ?_ _)); refine blk_put (cs := #[.int .i64 t262, .int .i64 t263, .slice Ao53 t264.length co53, .int .i64 0]) ?_ 3 _ rfl; (with_reducible repeat (first | refine blk_drewN ?_ _ | refine blk_drew ?_ | refine blk_alloc ?_ _)); refine blk_put (cs := #[.int .i64 t262, .int .i64 t263, .slice none 0 0, .int .i64 0]) ?_ 2 _ rfl; (with_reducible repeat (first | refine blk_drewN ?_ _ | refine blk_drew ?_ | refine blk_alloc ?_ _)); refine blk_put (cs := #[.int .i64 t262, .int .i64 0, .slice none 0 0, .int .i64 0]) ?_ 1 _ rfl; (with_reducible repeat (first | refine blk_drewN ?_ _ | refine blk_drew ?_ | refine blk_alloc ?_ _)); refine blk_put (cs := #[.int .i64 0, .int .i64 0, .slice none 0 0, .int .i64 0]) ?_ 0 _ rfl; (with_reducible repeat (first | refine blk_drewN ?_ _ | refine blk_drew ?_ | refine blk_alloc ?_ _)); exact BK268.out) hb); have n8_ := Aside0.mk (below_step Kit.bl hb); clear HO246; clear HO252; clear HO259; clear HO266; clear BK238; clear BK239; clear BK261; clear BK268; clear HB; have HO246 := n0_; have HO252 := n1_; have HO259 := n2_; have HO266 := n3_; have BK238 := n4_; have BK239 := n5_; have BK261 := n6_; have BK268 := n7_; have HB := n8_; clear n0_ n1_ n2_ n3_ n4_ n5_ n6_ n7_ n8_; (try clear hb); (try clear hb2); (try clear hk); (try clear hi)))
        go_ret
        exact ⟨Kit.er, Kit.bl⟩
      · rw [if_neg c25] at H
        have c25b0 : (t269 != t254) = false := by simpa using c25
        (try (have c25b1 : decide (t269 = t254) = true := by simpa using c25))
        (try (have c25b2 : (t269 == t254) = true := by simpa using c25))
        clear c25
        replace H := Option.bind_eq_some_iff.mp H
        obtain ⟨⟨t270, t271, t272, t275⟩, A560, H⟩ := H
        replace H : ((laws_eqShard.f k t255 t256 t257 t260 t270 t271 t272 t275).bind fun t276 => (if t276 = true then ((laws_toShard.f k a1_0 a1_1 l1_2 a1_3).bind fun bt277 => ((laws_eqShard.f k t262 t263 t264 t267 bt277.1 bt277.2.1 bt277.2.2.1 bt277.2.2.2).bind fun t283 => (if t283 = true then (some true) else (some false)))) else (some false))) = some r := H
        have A56 := Aside0.mk A560
        clear A560
        replace H := Option.bind_eq_some_iff.mp H
        obtain ⟨t276, A570, H⟩ := H
        replace H : (if t276 = true then ((laws_toShard.f k a1_0 a1_1 l1_2 a1_3).bind fun bt277 => ((laws_eqShard.f k t262 t263 t264 t267 bt277.1 bt277.2.1 bt277.2.2.1 bt277.2.2.2).bind fun t283 => (if t283 = true then (some true) else (some false)))) else (some false)) = some r := H
        have A57 := Aside0.mk A570
        clear A570
        by_cases c58 : t276 = true
        · subst c58
          have H1 : ((laws_toShard.f k a1_0 a1_1 l1_2 a1_3).bind fun bt277 => ((laws_eqShard.f k t262 t263 t264 t267 bt277.1 bt277.2.1 bt277.2.2.1 bt277.2.2.2).bind fun t283 => (if t283 = true then (some true) else (some false)))) = some r := by rw [if_pos rfl] at H; exact H
          clear H
          have H := H1
          clear H1
          replace H := Option.bind_eq_some_iff.mp H
          obtain ⟨⟨t277, t278, t279, t282⟩, A590, H⟩ := H
          replace H : ((laws_eqShard.f k t262 t263 t264 t267 t277 t278 t279 t282).bind fun t283 => (if t283 = true then (some true) else (some false))) = some r := H
          have A59 := Aside0.mk A590
          clear A590
          replace H := Option.bind_eq_some_iff.mp H
          obtain ⟨t283, A600, H⟩ := H
          replace H : (if t283 = true then (some true) else (some false)) = some r := H
          have A60 := Aside0.mk A600
          clear A600
          by_cases c61 : t283 = true
          · subst c61
            have H1 : (some true) = some r := by rw [if_pos rfl] at H; exact H
            clear H
            have H := H1
            clear H1
            obtain rfl := Option.some.inj H
            go_enter Try.func12, Try.ntmps12
            try go_wp2_with (first | ((with_reducible refine gate_dst (N := 2) rfl ?_); refine box_event ?hg (N := 2) ?hd (cs := #[.int .i64 a0_0, .int .i64 a0_1, .slice A0_2 l0_2.length c0_2, .int .i64 a0_3]) (t := 59) ?hr ?_; (case hd => rfl); (case hg => rfl); (case hr => exact Kit.hr); intro gb238 hg w62 hbox hb; have BK238 := Aside0.mk (hbox); have GW238 := Aside0.mk (Kit.gx (w := w) hg); have GE238 := Aside0.mk (Kit.gx (w := w) hg); replace HB := Aside0.mk (below_step Kit.bl hb); clear hb hbox hg) | ((with_reducible refine gate_dst (N := 3) rfl ?_); refine box_event ?hg (N := 3) ?hd (cs := #[.int .i64 a1_0, .int .i64 a1_1, .slice A1_2 l1_2.length c1_2, .int .i64 a1_3]) (t := 59) ?hr ?_; (case hd => rfl); (case hg => rfl); (case hr => exact Kit.hr); intro gb239 hg w63 hbox hb; have BK239 := Aside0.mk (hbox); have GW239 := Aside0.mk (Kit.gx (w := w) hg); have GE239 := Aside0.mk (Kit.gx (w := w) hg); replace HB := Aside0.mk (below_step Kit.bl hb); have NB238_239 := Aside0.mk (Kit.nlt hg BK238.out); have NB239_238 := Aside0.mk (Kit.ngt hg BK238.out); replace BK238 := Aside0.mk (Kit.bb BK238.out hb); clear hb hbox hg; have hnb64 := NB238_239.out; have hnc64 := NB239_238.out; obtain ⟨hcz65_0, hcz65_1, hcz65_2, hcz65_3, hfz65_0, hfz65_1, hfz65_2, hfz65_3⟩ := Kit.c4 BK238.out) | ((with_reducible refine gate_callee (f := 42) rfl ?_); refine goesL_ (some 12) rfl rfl Try.func42 (by kernel_rfl) rfl #[.agg #[.int .i64 a0_0, .int .i64 a0_1, .slice A0_2 l0_2.length c0_2, .int .i64 a0_3], .int .i64 1048576] rfl Kit.am ?_; (with_reducible refine (laws_szShard.calls k a0_0 a0_1 _ _ l0_2 a0_3 1048576 t240 _ ?side1 ?side2 A3.out).mono ?_); (case side1 => exact Kit.cx ((Kd.C_below HR0_2.out HB.out))); (case side2 => exact HC0_2.out); rintro e w66 ⟨rfl, hb⟩; refine ⟨_, rfl, ?_⟩; replace BK238 := Aside0.mk (Kit.bb BK238.out hb); replace BK239 := Aside0.mk (Kit.bb BK239.out hb); replace HB := Aside0.mk (below_step Kit.bl hb); (try clear hb); (try clear hb2); (try clear hk); (try clear hi); obtain ⟨hcz67_0, hcz67_1, hcz67_2, hcz67_3, hfz67_0, hfz67_1, hfz67_2, hfz67_3⟩ := Kit.c4 BK239.out) | ((with_reducible refine gate_callee (f := 42) rfl ?_); refine goesL_ (some 17) rfl rfl Try.func42 (by kernel_rfl) rfl #[.agg #[.int .i64 a1_0, .int .i64 a1_1, .slice A1_2 l1_2.length c1_2, .int .i64 a1_3], .int .i64 t240] rfl Kit.am ?_; (with_reducible refine (laws_szShard.calls k a1_0 a1_1 _ _ l1_2 a1_3 t240 t241 _ ?side1 ?side2 A10.out).mono ?_); (case side1 => exact Kit.cx ((Kd.C_below HR1_2.out HB.out))); (case side2 => exact HC1_2.out); rintro e w68 ⟨rfl, hb⟩; refine ⟨_, rfl, ?_⟩; replace BK238 := Aside0.mk (Kit.bb BK238.out hb); replace BK239 := Aside0.mk (Kit.bb BK239.out hb); replace HB := Aside0.mk (below_step Kit.bl hb); (try clear hb); (try clear hb2); (try clear hk); (try clear hi)))
            replace BK238 := Aside0.mk (blk_drew BK238.out)
            replace BK239 := Aside0.mk (blk_drew BK239.out)
            replace HB := Aside0.mk (below_drew1 HB.out)
            refine start_ (n := 6) (S := fun w' => w'.cell? ⟨gb238, 0, none⟩ = some (.int .i64 a0_0) ∧ w'.cell? ⟨gb238, 1, none⟩ = some (.int .i64 a0_1) ∧ w'.cell? ⟨gb238, 2, none⟩ = some (.slice A0_2 l0_2.length c0_2) ∧ w'.cell? ⟨gb238, 3, none⟩ = some (.int .i64 a0_3) ∧ w'.cell? ⟨gb239, 0, none⟩ = some (.int .i64 a1_0) ∧ w'.cell? ⟨gb239, 1, none⟩ = some (.int .i64 a1_1) ∧ w'.cell? ⟨gb239, 2, none⟩ = some (.slice A1_2 l1_2.length c1_2) ∧ w'.cell? ⟨gb239, 3, none⟩ = some (.int .i64 a1_3)) (ds := []) #[false, false, false, false, false, false] (by kernel_rfl) rfl rfl ⟨(blk_cell BK238.out 0).trans rfl, (blk_cell BK238.out 1).trans rfl, (blk_cell BK238.out 2).trans rfl, (blk_cell BK238.out 3).trans rfl, (blk_cell BK239.out 0).trans rfl, (blk_cell BK239.out 1).trans rfl, (blk_cell BK239.out 2).trans rfl, (blk_cell BK239.out 3).trans rfl⟩ (fun hHeld => ?_)
            generalize w68.drew = w69 at BK238 BK239 HB hHeld ⊢
            refine take_ (i := 0) (N := some 20) (v := ?_) (a' := ?_) #[true, false, false, false, false, false] rfl rfl (by kernel_rfl) (fun _ _ _ h => h) (Or.inl ⟨by rfl, ?_⟩) hHeld ?_ ?_
            rotate_left
            · rintro w' ⟨s0, s1, s2, s3, s4, s5, s6, s7⟩
              go_simp
              with_reducible rfl
            rotate_left
            · simp only [Act.put, List.setIfInBounds_toArray, List.set_cons_zero, List.set_cons_succ, i64_w, i32_w]
              rfl
            refine take_ (i := 2) (N := some 22) (v := ?_) (a' := ?_) #[true, false, true, false, false, false] rfl rfl (by kernel_rfl) (fun _ _ _ h => h) (Or.inl ⟨by rfl, ?_⟩) hHeld ?_ ?_
            rotate_left
            · rintro w' ⟨s0, s1, s2, s3, s4, s5, s6, s7⟩
              go_simp
              with_reducible rfl
            rotate_left
            · simp only [Act.put, List.setIfInBounds_toArray, List.set_cons_zero, List.set_cons_succ, i64_w, i32_w]
              rfl
            refine one_ (i := 1) (N := some 21) #[true, true, true, false, false, false] rfl rfl (by kernel_rfl) (by decide) (fun K hK => ?_)
            refine goes_ Try.func44 (by kernel_rfl) rfl #[.agg #[.int .i64 a0_0, .int .i64 a0_1, .slice A0_2 l0_2.length c0_2, .int .i64 a0_3]] (by rfl) rfl rfl Kit.am ?_
            with_reducible refine (laws_toShard.calls k a0_0 a0_1 _ _ l0_2 a0_3 t242 t243 t244 t247 _ ?side1 ?side2 A19.out).mono ?_
            (case side1 => exact Kit.cx ((Kd.C_below HR0_2.out HB.out)))
            (case side2 => exact HC0_2.out)
            rintro e w70 ⟨v245, rfl, ho0, hb⟩
            refine ⟨_, rfl, ?_⟩
            have HO246 := Aside0.mk (Kd.S_lower ho0 Kit.bz)
            replace BK238 := Aside0.mk (Kit.bb BK238.out hb)
            replace BK239 := Aside0.mk (Kit.bb BK239.out hb)
            replace HB := Aside0.mk (below_step Kit.bl hb)
            (try clear hb)
            (try clear hb2)
            (try clear hk)
            (try clear hi)
            (try clear ho0)
            refine hK.out _ _ ⟨(blk_cell BK238.out 0).trans rfl, (blk_cell BK238.out 1).trans rfl, (blk_cell BK238.out 2).trans rfl, (blk_cell BK238.out 3).trans rfl, (blk_cell BK239.out 0).trans rfl, (blk_cell BK239.out 1).trans rfl, (blk_cell BK239.out 2).trans rfl, (blk_cell BK239.out 3).trans rfl⟩ (fun hHeld => ?_)
            clear hK K
            refine norm_ (a' := ?_) ?_ ?_
            rotate_left
            · show Act.put _ (some 21) _ = _
              simp only [Act.put, List.setIfInBounds_toArray, List.set_cons_zero, List.set_cons_succ, i64_w, i32_w]
              rfl
            refine one_ (i := 3) (N := some 23) #[true, true, true, true, false, false] rfl rfl (by kernel_rfl) (by decide) (fun K hK => ?_)
            refine goes_ Try.func44 (by kernel_rfl) rfl #[.agg #[.int .i64 a1_0, .int .i64 a1_1, .slice A1_2 l1_2.length c1_2, .int .i64 a1_3]] (by rfl) rfl rfl Kit.am ?_
            with_reducible refine (laws_toShard.calls k a1_0 a1_1 _ _ l1_2 a1_3 t248 t249 t250 t253 _ ?side1 ?side2 A20.out).mono ?_
            (case side1 => exact Kit.cx ((Kd.C_below HR1_2.out HB.out)))
            (case side2 => exact HC1_2.out)
            rintro e w71 ⟨v251, rfl, ho0, hb⟩
            refine ⟨_, rfl, ?_⟩
            have HO252 := Aside0.mk (Kd.S_lower (Kd.S_new' ho0 (Kd.S_lt (Kit.sx HO246.out))) Kit.bz)
            replace HO246 := Aside0.mk (Kd.S_elder' (Kit.sx HO246.out) (Kd.S_base ho0) hb)
            replace BK238 := Aside0.mk (Kit.bb BK238.out hb)
            replace BK239 := Aside0.mk (Kit.bb BK239.out hb)
            replace HB := Aside0.mk (below_step Kit.bl hb)
            (try clear hb)
            (try clear hb2)
            (try clear hk)
            (try clear hi)
            (try clear ho0)
            obtain ⟨Ao72, co72, eo72⟩ := Kd.S_slice HO246.out
            (first | subst eo72 | (injection eo72 with f1_ f2_ f3_; have f4_ := f1_.symm; have f5_ := f3_.symm; clear f1_ f2_ f3_; subst f4_; subst f5_))
            obtain ⟨Ao73, co73, eo73⟩ := Kd.S_slice HO252.out
            (first | subst eo73 | (injection eo73 with f1_ f2_ f3_; have f4_ := f1_.symm; have f5_ := f3_.symm; clear f1_ f2_ f3_; subst f4_; subst f5_))
            refine hK.out _ _ ⟨(blk_cell BK238.out 0).trans rfl, (blk_cell BK238.out 1).trans rfl, (blk_cell BK238.out 2).trans rfl, (blk_cell BK238.out 3).trans rfl, (blk_cell BK239.out 0).trans rfl, (blk_cell BK239.out 1).trans rfl, (blk_cell BK239.out 2).trans rfl, (blk_cell BK239.out 3).trans rfl⟩ (fun hHeld => ?_)
            clear hK K
            refine norm_ (a' := ?_) ?_ ?_
            rotate_left
            · show Act.put _ (some 23) _ = _
              simp only [Act.put, List.setIfInBounds_toArray, List.set_cons_zero, List.set_cons_succ, i64_w, i32_w]
              rfl
            refine one_ (i := 4) (N := some 24) #[true, true, true, true, true, false] rfl rfl (by kernel_rfl) (by decide) (fun K hK => ?_)
            refine goes_ Try.func43 (by kernel_rfl) rfl #[.agg #[.int .i64 t242, .int .i64 t243, .slice Ao72 t244.length co72, .int .i64 t247], .agg #[.int .i64 t248, .int .i64 t249, .slice Ao73 t250.length co73, .int .i64 t253]] (by rfl) rfl rfl Kit.am ?_
            with_reducible refine (spec_SameShard.calls k t242 t243 _ _ t244 t247 t248 t249 _ _ t250 t253 t254 _ ?side1 ?side2 ?side3 ?side4 A21.out).mono ?_
            (case side1 => exact Kit.cx ((Kd.S_reads' HO246.out).2.2))
            (case side2 => exact (Kd.S_reads' HO246.out).2.1)
            (case side3 => exact Kit.cx ((Kd.S_reads' HO252.out).2.2))
            (case side4 => exact (Kd.S_reads' HO252.out).2.1)
            rintro e w74 ⟨rfl, hb⟩
            refine ⟨_, rfl, ?_⟩
            replace HO246 := Aside0.mk (Kd.S_below (Kit.sx HO246.out) hb)
            replace HO252 := Aside0.mk (Kd.S_below (Kit.sx HO252.out) hb)
            replace BK238 := Aside0.mk (Kit.bb BK238.out hb)
            replace BK239 := Aside0.mk (Kit.bb BK239.out hb)
            replace HB := Aside0.mk (below_step Kit.bl hb)
            (try clear hb)
            (try clear hb2)
            (try clear hk)
            (try clear hi)
            refine hK.out _ _ ⟨(blk_cell BK238.out 0).trans rfl, (blk_cell BK238.out 1).trans rfl, (blk_cell BK238.out 2).trans rfl, (blk_cell BK238.out 3).trans rfl, (blk_cell BK239.out 0).trans rfl, (blk_cell BK239.out 1).trans rfl, (blk_cell BK239.out 2).trans rfl, (blk_cell BK239.out 3).trans rfl⟩ (fun hHeld => ?_)
            clear hK K
            refine norm_ (a' := ?_) ?_ ?_
            rotate_left
            · show Act.put _ (some 24) _ = _
              simp only [Act.put, List.setIfInBounds_toArray, List.set_cons_zero, List.set_cons_succ, i64_w, i32_w]
              rfl
            refine pure_ (i := 5) (N := some 6) (v := ?_) (a' := ?_) #[true, true, true, true, true, true] rfl rfl (by kernel_rfl) (fun _ _ _ h => h) (Or.inl ⟨by rfl, ?_⟩) ?_ ?_
            rotate_left
            · intro w'
              go_simp
              with_reducible rfl
            rotate_left
            · simp only [Act.put, List.setIfInBounds_toArray, List.set_cons_zero, List.set_cons_succ, i64_w, i32_w]
              rfl
            refine done_ (by kernel_rfl) ?_
            obtain ⟨hcz75_0, hcz75_1, hcz75_2, hcz75_3, hfz75_0, hfz75_1, hfz75_2, hfz75_3⟩ := Kit.c4 BK238.out
            try go_wp2_with (first | ((with_reducible refine gate_callee (f := 44) rfl ?_); refine goesL_ (some 26) rfl rfl Try.func44 (by kernel_rfl) rfl #[.agg #[.int .i64 a0_0, .int .i64 a0_1, .slice A0_2 l0_2.length c0_2, .int .i64 a0_3]] rfl Kit.am ?_; (with_reducible refine (laws_toShard.calls k a0_0 a0_1 _ _ l0_2 a0_3 t255 t256 t257 t260 _ ?side1 ?side2 A22.out).mono ?_); (case side1 => exact Kit.cx ((Kd.C_below HR0_2.out HB.out))); (case side2 => exact HC0_2.out); rintro e w76 ⟨v258, rfl, ho0, hb⟩; refine ⟨_, rfl, ?_⟩; have one_v258 : (v258 : Value).oneCell' = true := Kit.ov0; have HO259 := Aside0.mk (Kd.S_lower (Kd.S_new' (Kd.S_new' ho0 (Kd.S_lt (Kit.sx HO246.out))) (Kd.S_lt (Kit.sx HO252.out))) Kit.bz); replace HO246 := Aside0.mk (Kd.S_elder' (Kit.sx HO246.out) (Kd.S_base ho0) hb); replace HO252 := Aside0.mk (Kd.S_elder' (Kit.sx HO252.out) (Kd.S_base ho0) hb); replace BK238 := Aside0.mk (Kit.bb BK238.out hb); replace BK239 := Aside0.mk (Kit.bb BK239.out hb); replace HB := Aside0.mk (below_step Kit.bl hb); (try clear hb); (try clear hb2); (try clear hk); (try clear hi); (try clear ho0)) | ((with_reducible refine gate_dst (N := 7) rfl ?_); refine box_event ?hg (N := 7) ?hd (cs := #[.int .i64 0, .int .i64 0, .slice none 0 0, .int .i64 0]) (t := 51) ?hr ?_; (case hd => rfl); (case hg => rfl); (case hr => exact Kit.hr); intro gb261 hg w77 hbox hb; replace HO246 := Aside0.mk (Kd.S_below (Kit.sx HO246.out) hb); replace HO252 := Aside0.mk (Kd.S_below (Kit.sx HO252.out) hb); replace HO259 := Aside0.mk (Kd.S_below (Kit.sx HO259.out) hb); have BK261 := Aside0.mk (hbox); have GW261 := Aside0.mk (Kit.gx (w := w) hg); have GE261 := Aside0.mk (Kit.gx (w := w) hg); replace HB := Aside0.mk (below_step Kit.bl hb); have NB238_261 := Aside0.mk (Kit.nlt hg BK238.out); have NB261_238 := Aside0.mk (Kit.ngt hg BK238.out); replace BK238 := Aside0.mk (Kit.bb BK238.out hb); have NB239_261 := Aside0.mk (Kit.nlt hg BK239.out); have NB261_239 := Aside0.mk (Kit.ngt hg BK239.out); replace BK239 := Aside0.mk (Kit.bb BK239.out hb); clear hb hbox hg; have hnb78 := NB261_238.out; have hnc78 := NB238_261.out; have hnb79 := NB261_239.out; have hnc79 := NB239_261.out; obtain ⟨hcz80_0, hcz80_1, hcz80_2, hcz80_3, hfz80_0, hfz80_1, hfz80_2, hfz80_3⟩ := Kit.c4 BK261.out; obtain ⟨Ao81, co81, eo81⟩ := Kd.S_slice HO259.out; subst eo81; obtain ⟨hcz82_0, hcz82_1, hcz82_2, hcz82_3, hfz82_0, hfz82_1, hfz82_2, hfz82_3⟩ := Kit.c4 BK239.out) | ((with_reducible refine gate_callee (f := 44) rfl ?_); refine goesL_ (some 28) rfl rfl Try.func44 (by kernel_rfl) rfl #[.agg #[.int .i64 a1_0, .int .i64 a1_1, .slice A1_2 l1_2.length c1_2, .int .i64 a1_3]] rfl Kit.am ?_; (with_reducible refine (laws_toShard.calls k a1_0 a1_1 _ _ l1_2 a1_3 t262 t263 t264 t267 _ ?side1 ?side2 A23.out).mono ?_); (case side1 => exact Kd.C_below HR1_2.out Kit.bl); (case side2 => exact HC1_2.out); rintro e w83 ⟨v265, rfl, ho0, hb⟩; refine ⟨_, rfl, ?_⟩; have one_v265 : (v265 : Value).oneCell' = true := Kit.ov0; have n0_ := Aside0.mk (Kd.S_elder' (by (with_reducible repeat (first | apply Kd.S_alloc | apply Kd.S_drewN | apply Kd.S_drew)); exact (Kd.S_mono (Kd.S_far (p := ⟨gb261, 3, none⟩) (Kd.S_far (p := ⟨gb261, 2, none⟩) (Kd.S_far (p := ⟨gb261, 1, none⟩) (Kd.S_far (p := ⟨gb261, 0, none⟩) (Kd.S_types HO246.out BK261.out (by decide)) (fun _ hk => hk.2) (.int .i64 t255)) (fun _ hk => hk.2) (.int .i64 t256)) (fun _ hk => hk.2) (.slice Ao81 t257.length co81)) (fun _ hk => hk.2) (.int .i64 t260)) (fun _ h_ => h_.1))) (Kd.S_base ho0) hb); have n1_ := Aside0.mk (Kd.S_elder' (by (with_reducible repeat (first | apply Kd.S_alloc | apply Kd.S_drewN | apply Kd.S_drew)); exact (Kd.S_mono (Kd.S_far (p := ⟨gb261, 3, none⟩) (Kd.S_far (p := ⟨gb261, 2, none⟩) (Kd.S_far (p := ⟨gb261, 1, none⟩) (Kd.S_far (p := ⟨gb261, 0, none⟩) (Kd.S_types HO252.out BK261.out (by decide)) (fun _ hk => hk.2) (.int .i64 t255)) (fun _ hk => hk.2) (.int .i64 t256)) (fun _ hk => hk.2) (.slice Ao81 t257.length co81)) (fun _ hk => hk.2) (.int .i64 t260)) (fun _ h_ => h_.1))) (Kd.S_base ho0) hb); have n2_ := Aside0.mk (Kd.S_elder' (by (with_reducible repeat (first | apply Kd.S_alloc | apply Kd.S_drewN | apply Kd.S_drew)); exact (Kd.S_mono (Kd.S_far (p := ⟨gb261, 3, none⟩) (Kd.S_far (p := ⟨gb261, 2, none⟩) (Kd.S_far (p := ⟨gb261, 1, none⟩) (Kd.S_far (p := ⟨gb261, 0, none⟩) (Kd.S_types HO259.out BK261.out (by decide)) (fun _ hk => hk.2) (.int .i64 t255)) (fun _ hk => hk.2) (.int .i64 t256)) (fun _ hk => hk.2) (.slice Ao81 t257.length co81)) (fun _ hk => hk.2) (.int .i64 t260)) (fun _ h_ => h_.1))) (Kd.S_base ho0) hb); have n3_ := Aside0.mk (Kd.S_lower (Kd.S_new' (Kd.S_new' (Kd.S_new' ho0 (Kd.S_lt (by (with_reducible repeat (first | apply Kd.S_alloc | apply Kd.S_drewN | apply Kd.S_drew)); exact (Kd.S_mono (Kd.S_far (p := ⟨gb261, 3, none⟩) (Kd.S_far (p := ⟨gb261, 2, none⟩) (Kd.S_far (p := ⟨gb261, 1, none⟩) (Kd.S_far (p := ⟨gb261, 0, none⟩) (Kd.S_types HO246.out BK261.out (by decide)) (fun _ hk => hk.2) (.int .i64 t255)) (fun _ hk => hk.2) (.int .i64 t256)) (fun _ hk => hk.2) (.slice Ao81 t257.length co81)) (fun _ hk => hk.2) (.int .i64 t260)) (fun _ h_ => h_.1))))) (Kd.S_lt (by (with_reducible repeat (first | apply Kd.S_alloc | apply Kd.S_drewN | apply Kd.S_drew)); exact (Kd.S_mono (Kd.S_far (p := ⟨gb261, 3, none⟩) (Kd.S_far (p := ⟨gb261, 2, none⟩) (Kd.S_far (p := ⟨gb261, 1, none⟩) (Kd.S_far (p := ⟨gb261, 0, none⟩) (Kd.S_types HO252.out BK261.out (by decide)) (fun _ hk => hk.2) (.int .i64 t255)) (fun _ hk => hk.2) (.int .i64 t256)) (fun _ hk => hk.2) (.slice Ao81 t257.length co81)) (fun _ hk => hk.2) (.int .i64 t260)) (fun _ h_ => h_.1))))) (Kd.S_lt (by (with_reducible repeat (first | apply Kd.S_alloc | apply Kd.S_drewN | apply Kd.S_drew)); exact (Kd.S_mono (Kd.S_far (p := ⟨gb261, 3, none⟩) (Kd.S_far (p := ⟨gb261, 2, none⟩) (Kd.S_far (p := ⟨gb261, 1, none⟩) (Kd.S_far (p := ⟨gb261, 0, none⟩) (Kd.S_types HO259.out BK261.out (by decide)) (fun _ hk => hk.2) (.int .i64 t255)) (fun _ hk => hk.2) (.int .i64 t256)) (fun _ hk => hk.2) (.slice Ao81 t257.length co81)) (fun _ hk => hk.2) (.int .i64 t260)) (fun _ h_ => h_.1))))) Kit.bz); have n4_ := Aside0.mk (Kit.bf BK238.out hb); have n5_ := Aside0.mk (Kit.bf BK239.out hb); have n6_ := Aside0.mk (blk_below (g := gb261) (o := .cells #[.int .i64 t255, .int .i64 t256, .slice Ao81 t257.length co81, .int .i64 t260] 51 (0, 0)) (by (with_reducible repeat (first | refine blk_drewN ?_ _ | refine blk_drew ?_ | refine blk_alloc ?_ _)); refine blk_put (cs := #[.int .i64 t255, .int .i64 t256, .slice Ao81 t257.length co81, .int .i64 0]) ?_ 3 _ rfl; (with_reducible repeat (first | refine blk_drewN ?_ _ | refine blk_drew ?_ | refine blk_alloc ?_ _)); refine blk_put (cs := #[.int .i64 t255, .int .i64 t256, .slice none 0 0, .int .i64 0]) ?_ 2 _ rfl; (with_reducible repeat (first | refine blk_drewN ?_ _ | refine blk_drew ?_ | refine blk_alloc ?_ _)); refine blk_put (cs := #[.int .i64 t255, .int .i64 0, .slice none 0 0, .int .i64 0]) ?_ 1 _ rfl; (with_reducible repeat (first | refine blk_drewN ?_ _ | refine blk_drew ?_ | refine blk_alloc ?_ _)); refine blk_put (cs := #[.int .i64 0, .int .i64 0, .slice none 0 0, .int .i64 0]) ?_ 0 _ rfl; (with_reducible repeat (first | refine blk_drewN ?_ _ | refine blk_drew ?_ | refine blk_alloc ?_ _)); exact BK261.out) hb); have n7_ := Aside0.mk (below_step Kit.bl hb); clear HO246; clear HO252; clear HO259; clear BK238; clear BK239; clear BK261; clear HB; have HO246 := n0_; have HO252 := n1_; have HO259 := n2_; have HO266 := n3_; have BK238 := n4_; have BK239 := n5_; have BK261 := n6_; have HB := n7_; clear n0_ n1_ n2_ n3_ n4_ n5_ n6_ n7_; (try clear hb); (try clear hb2); (try clear hk); (try clear hi); (try clear ho0)) | ((with_reducible refine gate_dst (N := 8) rfl ?_); refine box_event ?hg (N := 8) ?hd (cs := #[.int .i64 0, .int .i64 0, .slice none 0 0, .int .i64 0]) (t := 51) ?hr ?_; (case hd => rfl); (case hg => rfl); (case hr => exact Kit.hr); intro gb268 hg w84 hbox hb; replace HO246 := Aside0.mk (Kd.S_below (Kit.sx HO246.out) hb); replace HO252 := Aside0.mk (Kd.S_below (Kit.sx HO252.out) hb); replace HO259 := Aside0.mk (Kd.S_below (Kit.sx HO259.out) hb); replace HO266 := Aside0.mk (Kd.S_below (Kit.sx HO266.out) hb); have BK268 := Aside0.mk (hbox); have GW268 := Aside0.mk (Kit.gx (w := w) hg); have GE268 := Aside0.mk (Kit.gx (w := w) hg); replace HB := Aside0.mk (below_step Kit.bl hb); have NB238_268 := Aside0.mk (Kit.nlt hg BK238.out); have NB268_238 := Aside0.mk (Kit.ngt hg BK238.out); replace BK238 := Aside0.mk (Kit.bb BK238.out hb); have NB239_268 := Aside0.mk (Kit.nlt hg BK239.out); have NB268_239 := Aside0.mk (Kit.ngt hg BK239.out); replace BK239 := Aside0.mk (Kit.bb BK239.out hb); have NB261_268 := Aside0.mk (Kit.nlt hg BK261.out); have NB268_261 := Aside0.mk (Kit.ngt hg BK261.out); replace BK261 := Aside0.mk (Kit.bb BK261.out hb); clear hb hbox hg; have hnb85 := NB268_238.out; have hnc85 := NB238_268.out; have hnb86 := NB268_239.out; have hnc86 := NB239_268.out; have hnb87 := NB268_261.out; have hnc87 := NB261_268.out; obtain ⟨hcz88_0, hcz88_1, hcz88_2, hcz88_3, hfz88_0, hfz88_1, hfz88_2, hfz88_3⟩ := Kit.c4 BK268.out; obtain ⟨Ao89, co89, eo89⟩ := Kd.S_slice HO266.out; subst eo89; obtain ⟨hcz90_0, hcz90_1, hcz90_2, hcz90_3, hfz90_0, hfz90_1, hfz90_2, hfz90_3⟩ := Kit.c4 BK261.out) | ((with_reducible refine gate_callee (f := 45) rfl ?_); refine goesL_ (some 31) rfl rfl Try.func45 (by kernel_rfl) rfl #[.agg #[.int .i64 t255, .int .i64 t256, .slice Ao81 t257.length co81, .int .i64 t260], .agg #[.int .i64 t262, .int .i64 t263, .slice Ao89 t264.length co89, .int .i64 t267]] rfl Kit.am ?_; (with_reducible refine (impl_SameShard.calls k t255 t256 _ _ t257 t260 t262 t263 _ _ t264 t267 t269 _ ?side1 ?side2 ?side3 ?side4 A24.out).mono ?_); (case side1 => refine (Kd.S_reads' (e := 87) (base := w.heap.size) (ok := fun k_ => (((True ∧ some k_ ≠ (.slice Ao72 t244.length co72 : Value).ownBlock) ∧ some k_ ≠ (.slice Ao73 t250.length co73 : Value).ownBlock) ∧ some k_ ≠ (.slice Ao89 t264.length co89 : Value).ownBlock)) (n := t257.length) (c := co81) ?_).2.2; exact (by (with_reducible repeat (first | apply Kd.S_alloc | apply Kd.S_drewN | apply Kd.S_drew)); exact (Kd.S_mono (Kd.S_far (p := ⟨gb268, 3, none⟩) (Kd.S_far (p := ⟨gb268, 2, none⟩) (Kd.S_far (p := ⟨gb268, 1, none⟩) (Kd.S_far (p := ⟨gb268, 0, none⟩) (Kd.S_types HO259.out BK268.out (by decide)) (fun _ hk => hk.2) (.int .i64 t262)) (fun _ hk => hk.2) (.int .i64 t263)) (fun _ hk => hk.2) (.slice Ao89 t264.length co89)) (fun _ hk => hk.2) (.int .i64 t267)) (fun _ h_ => h_.1)))); (case side2 => exact (Kd.S_reads' HO259.out).2.1); (case side3 => refine (Kd.S_reads' (e := 87) (base := w.heap.size) (ok := fun k_ => (((True ∧ some k_ ≠ (.slice Ao72 t244.length co72 : Value).ownBlock) ∧ some k_ ≠ (.slice Ao73 t250.length co73 : Value).ownBlock) ∧ some k_ ≠ (.slice Ao81 t257.length co81 : Value).ownBlock)) (n := t264.length) (c := co89) ?_).2.2; exact (by (with_reducible repeat (first | apply Kd.S_alloc | apply Kd.S_drewN | apply Kd.S_drew)); exact (Kd.S_mono (Kd.S_far (p := ⟨gb268, 3, none⟩) (Kd.S_far (p := ⟨gb268, 2, none⟩) (Kd.S_far (p := ⟨gb268, 1, none⟩) (Kd.S_far (p := ⟨gb268, 0, none⟩) (Kd.S_types HO266.out BK268.out (by decide)) (fun _ hk => hk.2) (.int .i64 t262)) (fun _ hk => hk.2) (.int .i64 t263)) (fun _ hk => hk.2) (.slice Ao89 t264.length co89)) (fun _ hk => hk.2) (.int .i64 t267)) (fun _ h_ => h_.1)))); (case side4 => exact (Kd.S_reads' HO266.out).2.1); rintro e w91 ⟨rfl, hb⟩; refine ⟨_, rfl, ?_⟩; have n0_ := Aside0.mk (Kd.S_below (by (with_reducible repeat (first | apply Kd.S_alloc | apply Kd.S_drewN | apply Kd.S_drew)); exact (Kd.S_mono (Kd.S_far (p := ⟨gb268, 3, none⟩) (Kd.S_far (p := ⟨gb268, 2, none⟩) (Kd.S_far (p := ⟨gb268, 1, none⟩) (Kd.S_far (p := ⟨gb268, 0, none⟩) (Kd.S_types HO246.out BK268.out (by decide)) (fun _ hk => hk.2) (.int .i64 t262)) (fun _ hk => hk.2) (.int .i64 t263)) (fun _ hk => hk.2) (.slice Ao89 t264.length co89)) (fun _ hk => hk.2) (.int .i64 t267)) (fun _ h_ => h_.1))) hb); have n1_ := Aside0.mk (Kd.S_below (by (with_reducible repeat (first | apply Kd.S_alloc | apply Kd.S_drewN | apply Kd.S_drew)); exact (Kd.S_mono (Kd.S_far (p := ⟨gb268, 3, none⟩) (Kd.S_far (p := ⟨gb268, 2, none⟩) (Kd.S_far (p := ⟨gb268, 1, none⟩) (Kd.S_far (p := ⟨gb268, 0, none⟩) (Kd.S_types HO252.out BK268.out (by decide)) (fun _ hk => hk.2) (.int .i64 t262)) (fun _ hk => hk.2) (.int .i64 t263)) (fun _ hk => hk.2) (.slice Ao89 t264.length co89)) (fun _ hk => hk.2) (.int .i64 t267)) (fun _ h_ => h_.1))) hb); have n2_ := Aside0.mk (Kd.S_below (by (with_reducible repeat (first | apply Kd.S_alloc | apply Kd.S_drewN | apply Kd.S_drew)); exact (Kd.S_mono (Kd.S_far (p := ⟨gb268, 3, none⟩) (Kd.S_far (p := ⟨gb268, 2, none⟩) (Kd.S_far (p := ⟨gb268, 1, none⟩) (Kd.S_far (p := ⟨gb268, 0, none⟩) (Kd.S_types HO259.out BK268.out (by decide)) (fun _ hk => hk.2) (.int .i64 t262)) (fun _ hk => hk.2) (.int .i64 t263)) (fun _ hk => hk.2) (.slice Ao89 t264.length co89)) (fun _ hk => hk.2) (.int .i64 t267)) (fun _ h_ => h_.1))) hb); have n3_ := Aside0.mk (Kd.S_below (by (with_reducible repeat (first | apply Kd.S_alloc | apply Kd.S_drewN | apply Kd.S_drew)); exact (Kd.S_mono (Kd.S_far (p := ⟨gb268, 3, none⟩) (Kd.S_far (p := ⟨gb268, 2, none⟩) (Kd.S_far (p := ⟨gb268, 1, none⟩) (Kd.S_far (p := ⟨gb268, 0, none⟩) (Kd.S_types HO266.out BK268.out (by decide)) (fun _ hk => hk.2) (.int .i64 t262)) (fun _ hk => hk.2) (.int .i64 t263)) (fun _ hk => hk.2) (.slice Ao89 t264.length co89)) (fun _ hk => hk.2) (.int .i64 t267)) (fun _ h_ => h_.1))) hb); have n4_ := Aside0.mk (Kit.bf BK238.out hb); have n5_ := Aside0.mk (Kit.bf BK239.out hb); have n6_ := Aside0.mk (Kit.bf BK261.out hb); have n7_ := Aside0.mk (blk_below (g := gb268) (o := .cells #[.int .i64 t262, .int .i64 t263, .slice Ao89 t264.length co89, .int .i64 t267] 51 (0, 0)) (by (with_reducible repeat (first | refine blk_drewN ?_ _ | refine blk_drew ?_ | refine blk_alloc ?_ _)); refine blk_put (cs := #[.int .i64 t262, .int .i64 t263, .slice Ao89 t264.length co89, .int .i64 0]) ?_ 3 _ rfl; (with_reducible repeat (first | refine blk_drewN ?_ _ | refine blk_drew ?_ | refine blk_alloc ?_ _)); refine blk_put (cs := #[.int .i64 t262, .int .i64 t263, .slice none 0 0, .int .i64 0]) ?_ 2 _ rfl; (with_reducible repeat (first | refine blk_drewN ?_ _ | refine blk_drew ?_ | refine blk_alloc ?_ _)); refine blk_put (cs := #[.int .i64 t262, .int .i64 0, .slice none 0 0, .int .i64 0]) ?_ 1 _ rfl; (with_reducible repeat (first | refine blk_drewN ?_ _ | refine blk_drew ?_ | refine blk_alloc ?_ _)); refine blk_put (cs := #[.int .i64 0, .int .i64 0, .slice none 0 0, .int .i64 0]) ?_ 0 _ rfl; (with_reducible repeat (first | refine blk_drewN ?_ _ | refine blk_drew ?_ | refine blk_alloc ?_ _)); exact BK268.out) hb); have n8_ := Aside0.mk (below_step Kit.bl hb); clear HO246; clear HO252; clear HO259; clear HO266; clear BK238; clear BK239; clear BK261; clear BK268; clear HB; have HO246 := n0_; have HO252 := n1_; have HO259 := n2_; have HO266 := n3_; have BK238 := n4_; have BK239 := n5_; have BK261 := n6_; have BK268 := n7_; have HB := n8_; clear n0_ n1_ n2_ n3_ n4_ n5_ n6_ n7_ n8_; (try clear hb); (try clear hb2); (try clear hk); (try clear hi)))
            have n0_ := Aside0.mk (Kd.S_drew HO246.out)
            have n1_ := Aside0.mk (Kd.S_drew HO252.out)
            have n2_ := Aside0.mk (Kd.S_drew HO259.out)
            have n3_ := Aside0.mk (Kd.S_drew HO266.out)
            have n4_ := Aside0.mk (blk_drew BK238.out)
            have n5_ := Aside0.mk (blk_drew BK239.out)
            have n6_ := Aside0.mk (blk_drew BK261.out)
            have n7_ := Aside0.mk (blk_drew BK268.out)
            have n8_ := Aside0.mk (below_drew1 HB.out)
            clear HO246
            clear HO252
            clear HO259
            clear HO266
            clear BK238
            clear BK239
            clear BK261
            clear BK268
            clear HB
            have HO246 := n0_
            have HO252 := n1_
            have HO259 := n2_
            have HO266 := n3_
            have BK238 := n4_
            have BK239 := n5_
            have BK261 := n6_
            have BK268 := n7_
            have HB := n8_
            clear n0_ n1_ n2_ n3_ n4_ n5_ n6_ n7_ n8_
            refine start_ (n := 5) (S := fun w' => w'.cell? ⟨gb261, 0, none⟩ = some (.int .i64 t255) ∧ w'.cell? ⟨gb261, 1, none⟩ = some (.int .i64 t256) ∧ w'.cell? ⟨gb261, 2, none⟩ = some (.slice Ao81 t257.length co81) ∧ w'.cell? ⟨gb261, 3, none⟩ = some (.int .i64 t260) ∧ w'.cell? ⟨gb238, 0, none⟩ = some (.int .i64 a0_0) ∧ w'.cell? ⟨gb238, 1, none⟩ = some (.int .i64 a0_1) ∧ w'.cell? ⟨gb238, 2, none⟩ = some (.slice A0_2 l0_2.length c0_2) ∧ w'.cell? ⟨gb238, 3, none⟩ = some (.int .i64 a0_3)) (ds := []) #[false, false, false, false, false] (by kernel_rfl) rfl rfl ⟨(blk_cell BK261.out 0).trans rfl, (blk_cell BK261.out 1).trans rfl, (blk_cell BK261.out 2).trans rfl, (blk_cell BK261.out 3).trans rfl, (blk_cell BK238.out 0).trans rfl, (blk_cell BK238.out 1).trans rfl, (blk_cell BK238.out 2).trans rfl, (blk_cell BK238.out 3).trans rfl⟩ (fun hHeld => ?_)
            generalize w91.drew = w92 at HO246 HO252 HO259 HO266 BK238 BK239 BK261 BK268 HB hHeld ⊢
            refine take_ (i := 0) (N := some 35) (v := ?_) (a' := ?_) #[true, false, false, false, false] rfl rfl (by kernel_rfl) (fun _ _ _ h => h) (Or.inl ⟨by rfl, ?_⟩) hHeld ?_ ?_
            rotate_left
            · rintro w' ⟨s0, s1, s2, s3, s4, s5, s6, s7⟩
              go_simp
              with_reducible rfl
            rotate_left
            · simp only [Act.put, List.setIfInBounds_toArray, List.set_cons_zero, List.set_cons_succ, i64_w, i32_w]
              rfl
            refine take_ (i := 1) (N := some 36) (v := ?_) (a' := ?_) #[true, true, false, false, false] rfl rfl (by kernel_rfl) (fun _ _ _ h => h) (Or.inl ⟨by rfl, ?_⟩) hHeld ?_ ?_
            rotate_left
            · rintro w' ⟨s0, s1, s2, s3, s4, s5, s6, s7⟩
              go_simp
              with_reducible rfl
            rotate_left
            · simp only [Act.put, List.setIfInBounds_toArray, List.set_cons_zero, List.set_cons_succ, i64_w, i32_w]
              rfl
            refine one_ (i := 2) (N := some 37) #[true, true, true, false, false] rfl rfl (by kernel_rfl) (by decide) (fun K hK => ?_)
            refine goes_ Try.func44 (by kernel_rfl) rfl #[.agg #[.int .i64 a0_0, .int .i64 a0_1, .slice A0_2 l0_2.length c0_2, .int .i64 a0_3]] (by rfl) rfl rfl Kit.am ?_
            with_reducible refine (laws_toShard.calls k a0_0 a0_1 _ _ l0_2 a0_3 t270 t271 t272 t275 _ ?side1 ?side2 A56.out).mono ?_
            (case side1 => exact Kit.cx ((Kd.C_below HR0_2.out HB.out)))
            (case side2 => exact HC0_2.out)
            rintro e w93 ⟨v273, rfl, ho0, hb⟩
            refine ⟨_, rfl, ?_⟩
            have HO274 := Aside0.mk (Kd.S_lower (Kd.S_new' (Kd.S_new' (Kd.S_new' (Kd.S_new' ho0 (Kd.S_lt (Kit.sx HO246.out))) (Kd.S_lt (Kit.sx HO252.out))) (Kd.S_lt (Kit.sx HO259.out))) (Kd.S_lt (Kit.sx HO266.out))) Kit.bz)
            replace HO246 := Aside0.mk (Kd.S_elder' (Kit.sx HO246.out) (Kd.S_base ho0) hb)
            replace HO252 := Aside0.mk (Kd.S_elder' (Kit.sx HO252.out) (Kd.S_base ho0) hb)
            replace HO259 := Aside0.mk (Kd.S_elder' (Kit.sx HO259.out) (Kd.S_base ho0) hb)
            replace HO266 := Aside0.mk (Kd.S_elder' (Kit.sx HO266.out) (Kd.S_base ho0) hb)
            replace BK238 := Aside0.mk (Kit.bb BK238.out hb)
            replace BK239 := Aside0.mk (Kit.bb BK239.out hb)
            replace BK261 := Aside0.mk (Kit.bb BK261.out hb)
            replace BK268 := Aside0.mk (Kit.bb BK268.out hb)
            replace HB := Aside0.mk (below_step Kit.bl hb)
            (try clear hb)
            (try clear hb2)
            (try clear hk)
            (try clear hi)
            (try clear ho0)
            obtain ⟨Ao94, co94, eo94⟩ := Kd.S_slice HO274.out
            (first | subst eo94 | (injection eo94 with f1_ f2_ f3_; have f4_ := f1_.symm; have f5_ := f3_.symm; clear f1_ f2_ f3_; subst f4_; subst f5_))
            refine hK.out _ _ ⟨(blk_cell BK261.out 0).trans rfl, (blk_cell BK261.out 1).trans rfl, (blk_cell BK261.out 2).trans rfl, (blk_cell BK261.out 3).trans rfl, (blk_cell BK238.out 0).trans rfl, (blk_cell BK238.out 1).trans rfl, (blk_cell BK238.out 2).trans rfl, (blk_cell BK238.out 3).trans rfl⟩ (fun hHeld => ?_)
            clear hK K
            refine norm_ (a' := ?_) ?_ ?_
            rotate_left
            · show Act.put _ (some 37) _ = _
              simp only [Act.put, List.setIfInBounds_toArray, List.set_cons_zero, List.set_cons_succ, i64_w, i32_w]
              rfl
            refine one_ (i := 3) (N := some 38) #[true, true, true, true, false] rfl rfl (by kernel_rfl) (by decide) (fun K hK => ?_)
            refine goes_ Try.func37 (by kernel_rfl) rfl #[.agg #[.int .i64 t255, .int .i64 t256, .slice Ao81 t257.length co81, .int .i64 t260], .agg #[.int .i64 t270, .int .i64 t271, .slice Ao94 t272.length co94, .int .i64 t275]] (by rfl) rfl rfl Kit.am ?_
            with_reducible refine (laws_eqShard.calls k t255 t256 _ _ t257 t260 t270 t271 _ _ t272 t275 true _ ?side1 ?side2 ?side3 ?side4 A57.out).mono ?_
            (case side1 => exact Kit.cx ((Kd.S_reads' HO259.out).2.2))
            (case side2 => exact (Kd.S_reads' HO259.out).2.1)
            (case side3 => exact Kit.cx ((Kd.S_reads' HO274.out).2.2))
            (case side4 => exact (Kd.S_reads' HO274.out).2.1)
            rintro e w95 ⟨rfl, hb⟩
            refine ⟨_, rfl, ?_⟩
            replace HO246 := Aside0.mk (Kd.S_below (Kit.sx HO246.out) hb)
            replace HO252 := Aside0.mk (Kd.S_below (Kit.sx HO252.out) hb)
            replace HO259 := Aside0.mk (Kd.S_below (Kit.sx HO259.out) hb)
            replace HO266 := Aside0.mk (Kd.S_below (Kit.sx HO266.out) hb)
            replace HO274 := Aside0.mk (Kd.S_below (Kit.sx HO274.out) hb)
            replace BK238 := Aside0.mk (Kit.bb BK238.out hb)
            replace BK239 := Aside0.mk (Kit.bb BK239.out hb)
            replace BK261 := Aside0.mk (Kit.bb BK261.out hb)
            replace BK268 := Aside0.mk (Kit.bb BK268.out hb)
            replace HB := Aside0.mk (below_step Kit.bl hb)
            (try clear hb)
            (try clear hb2)
            (try clear hk)
            (try clear hi)
            refine hK.out _ _ ⟨(blk_cell BK261.out 0).trans rfl, (blk_cell BK261.out 1).trans rfl, (blk_cell BK261.out 2).trans rfl, (blk_cell BK261.out 3).trans rfl, (blk_cell BK238.out 0).trans rfl, (blk_cell BK238.out 1).trans rfl, (blk_cell BK238.out 2).trans rfl, (blk_cell BK238.out 3).trans rfl⟩ (fun hHeld => ?_)
            clear hK K
            refine norm_ (a' := ?_) ?_ ?_
            rotate_left
            · show Act.put _ (some 38) _ = _
              simp only [Act.put, List.setIfInBounds_toArray, List.set_cons_zero, List.set_cons_succ, i64_w, i32_w]
              rfl
            refine pure_ (i := 4) (N := some 39) (v := ?_) (a' := ?_) #[true, true, true, true, true] rfl rfl (by kernel_rfl) (fun _ _ _ h => h) (Or.inl ⟨by rfl, ?_⟩) ?_ ?_
            rotate_left
            · intro w'
              go_simp
              with_reducible rfl
            rotate_left
            · simp only [Act.put, List.setIfInBounds_toArray, List.set_cons_zero, List.set_cons_succ, i64_w, i32_w]
              rfl
            refine done_ (by kernel_rfl) ?_
            try go_wp2
            replace HO246 := Aside0.mk (Kd.S_drew HO246.out)
            replace HO252 := Aside0.mk (Kd.S_drew HO252.out)
            replace HO259 := Aside0.mk (Kd.S_drew HO259.out)
            replace HO266 := Aside0.mk (Kd.S_drew HO266.out)
            replace HO274 := Aside0.mk (Kd.S_drew HO274.out)
            replace BK238 := Aside0.mk (blk_drew BK238.out)
            replace BK239 := Aside0.mk (blk_drew BK239.out)
            replace BK261 := Aside0.mk (blk_drew BK261.out)
            replace BK268 := Aside0.mk (blk_drew BK268.out)
            replace HB := Aside0.mk (below_drew1 HB.out)
            refine start_ (n := 5) (S := fun w' => w'.cell? ⟨gb268, 0, none⟩ = some (.int .i64 t262) ∧ w'.cell? ⟨gb268, 1, none⟩ = some (.int .i64 t263) ∧ w'.cell? ⟨gb268, 2, none⟩ = some (.slice Ao89 t264.length co89) ∧ w'.cell? ⟨gb268, 3, none⟩ = some (.int .i64 t267) ∧ w'.cell? ⟨gb239, 0, none⟩ = some (.int .i64 a1_0) ∧ w'.cell? ⟨gb239, 1, none⟩ = some (.int .i64 a1_1) ∧ w'.cell? ⟨gb239, 2, none⟩ = some (.slice A1_2 l1_2.length c1_2) ∧ w'.cell? ⟨gb239, 3, none⟩ = some (.int .i64 a1_3)) (ds := []) #[false, false, false, false, false] (by kernel_rfl) rfl rfl ⟨(blk_cell BK268.out 0).trans rfl, (blk_cell BK268.out 1).trans rfl, (blk_cell BK268.out 2).trans rfl, (blk_cell BK268.out 3).trans rfl, (blk_cell BK239.out 0).trans rfl, (blk_cell BK239.out 1).trans rfl, (blk_cell BK239.out 2).trans rfl, (blk_cell BK239.out 3).trans rfl⟩ (fun hHeld => ?_)
            generalize w95.drew = w96 at HO246 HO252 HO259 HO266 HO274 BK238 BK239 BK261 BK268 HB hHeld ⊢
            refine take_ (i := 0) (N := some 40) (v := ?_) (a' := ?_) #[true, false, false, false, false] rfl rfl (by kernel_rfl) (fun _ _ _ h => h) (Or.inl ⟨by rfl, ?_⟩) hHeld ?_ ?_
            rotate_left
            · rintro w' ⟨s0, s1, s2, s3, s4, s5, s6, s7⟩
              go_simp
              with_reducible rfl
            rotate_left
            · simp only [Act.put, List.setIfInBounds_toArray, List.set_cons_zero, List.set_cons_succ, i64_w, i32_w]
              rfl
            refine take_ (i := 1) (N := some 41) (v := ?_) (a' := ?_) #[true, true, false, false, false] rfl rfl (by kernel_rfl) (fun _ _ _ h => h) (Or.inl ⟨by rfl, ?_⟩) hHeld ?_ ?_
            rotate_left
            · rintro w' ⟨s0, s1, s2, s3, s4, s5, s6, s7⟩
              go_simp
              with_reducible rfl
            rotate_left
            · simp only [Act.put, List.setIfInBounds_toArray, List.set_cons_zero, List.set_cons_succ, i64_w, i32_w]
              rfl
            refine one_ (i := 2) (N := some 42) #[true, true, true, false, false] rfl rfl (by kernel_rfl) (by decide) (fun K hK => ?_)
            refine goes_ Try.func44 (by kernel_rfl) rfl #[.agg #[.int .i64 a1_0, .int .i64 a1_1, .slice A1_2 l1_2.length c1_2, .int .i64 a1_3]] (by rfl) rfl rfl Kit.am ?_
            with_reducible refine (laws_toShard.calls k a1_0 a1_1 _ _ l1_2 a1_3 t277 t278 t279 t282 _ ?side1 ?side2 A59.out).mono ?_
            (case side1 => exact Kit.cx ((Kd.C_below HR1_2.out HB.out)))
            (case side2 => exact HC1_2.out)
            rintro e w97 ⟨v280, rfl, ho0, hb⟩
            refine ⟨_, rfl, ?_⟩
            have HO281 := Aside0.mk (Kd.S_lower (Kd.S_new' (Kd.S_new' (Kd.S_new' (Kd.S_new' (Kd.S_new' ho0 (Kd.S_lt (Kit.sx HO246.out))) (Kd.S_lt (Kit.sx HO252.out))) (Kd.S_lt (Kit.sx HO259.out))) (Kd.S_lt (Kit.sx HO266.out))) (Kd.S_lt (Kit.sx HO274.out))) Kit.bz)
            replace HO246 := Aside0.mk (Kd.S_elder' (Kit.sx HO246.out) (Kd.S_base ho0) hb)
            replace HO252 := Aside0.mk (Kd.S_elder' (Kit.sx HO252.out) (Kd.S_base ho0) hb)
            replace HO259 := Aside0.mk (Kd.S_elder' (Kit.sx HO259.out) (Kd.S_base ho0) hb)
            replace HO266 := Aside0.mk (Kd.S_elder' (Kit.sx HO266.out) (Kd.S_base ho0) hb)
            replace HO274 := Aside0.mk (Kd.S_elder' (Kit.sx HO274.out) (Kd.S_base ho0) hb)
            replace BK238 := Aside0.mk (Kit.bb BK238.out hb)
            replace BK239 := Aside0.mk (Kit.bb BK239.out hb)
            replace BK261 := Aside0.mk (Kit.bb BK261.out hb)
            replace BK268 := Aside0.mk (Kit.bb BK268.out hb)
            replace HB := Aside0.mk (below_step Kit.bl hb)
            (try clear hb)
            (try clear hb2)
            (try clear hk)
            (try clear hi)
            (try clear ho0)
            obtain ⟨Ao98, co98, eo98⟩ := Kd.S_slice HO281.out
            (first | subst eo98 | (injection eo98 with f1_ f2_ f3_; have f4_ := f1_.symm; have f5_ := f3_.symm; clear f1_ f2_ f3_; subst f4_; subst f5_))
            refine hK.out _ _ ⟨(blk_cell BK268.out 0).trans rfl, (blk_cell BK268.out 1).trans rfl, (blk_cell BK268.out 2).trans rfl, (blk_cell BK268.out 3).trans rfl, (blk_cell BK239.out 0).trans rfl, (blk_cell BK239.out 1).trans rfl, (blk_cell BK239.out 2).trans rfl, (blk_cell BK239.out 3).trans rfl⟩ (fun hHeld => ?_)
            clear hK K
            refine norm_ (a' := ?_) ?_ ?_
            rotate_left
            · show Act.put _ (some 42) _ = _
              simp only [Act.put, List.setIfInBounds_toArray, List.set_cons_zero, List.set_cons_succ, i64_w, i32_w]
              rfl
            refine one_ (i := 3) (N := some 43) #[true, true, true, true, false] rfl rfl (by kernel_rfl) (by decide) (fun K hK => ?_)
            refine goes_ Try.func37 (by kernel_rfl) rfl #[.agg #[.int .i64 t262, .int .i64 t263, .slice Ao89 t264.length co89, .int .i64 t267], .agg #[.int .i64 t277, .int .i64 t278, .slice Ao98 t279.length co98, .int .i64 t282]] (by rfl) rfl rfl Kit.am ?_
            with_reducible refine (laws_eqShard.calls k t262 t263 _ _ t264 t267 t277 t278 _ _ t279 t282 true _ ?side1 ?side2 ?side3 ?side4 A60.out).mono ?_
            (case side1 => exact Kit.cx ((Kd.S_reads' HO266.out).2.2))
            (case side2 => exact (Kd.S_reads' HO266.out).2.1)
            (case side3 => exact Kit.cx ((Kd.S_reads' HO281.out).2.2))
            (case side4 => exact (Kd.S_reads' HO281.out).2.1)
            rintro e w99 ⟨rfl, hb⟩
            refine ⟨_, rfl, ?_⟩
            replace HO246 := Aside0.mk (Kd.S_below (Kit.sx HO246.out) hb)
            replace HO252 := Aside0.mk (Kd.S_below (Kit.sx HO252.out) hb)
            replace HO259 := Aside0.mk (Kd.S_below (Kit.sx HO259.out) hb)
            replace HO266 := Aside0.mk (Kd.S_below (Kit.sx HO266.out) hb)
            replace HO274 := Aside0.mk (Kd.S_below (Kit.sx HO274.out) hb)
            replace HO281 := Aside0.mk (Kd.S_below (Kit.sx HO281.out) hb)
            replace BK238 := Aside0.mk (Kit.bb BK238.out hb)
            replace BK239 := Aside0.mk (Kit.bb BK239.out hb)
            replace BK261 := Aside0.mk (Kit.bb BK261.out hb)
            replace BK268 := Aside0.mk (Kit.bb BK268.out hb)
            replace HB := Aside0.mk (below_step Kit.bl hb)
            (try clear hb)
            (try clear hb2)
            (try clear hk)
            (try clear hi)
            refine hK.out _ _ ⟨(blk_cell BK268.out 0).trans rfl, (blk_cell BK268.out 1).trans rfl, (blk_cell BK268.out 2).trans rfl, (blk_cell BK268.out 3).trans rfl, (blk_cell BK239.out 0).trans rfl, (blk_cell BK239.out 1).trans rfl, (blk_cell BK239.out 2).trans rfl, (blk_cell BK239.out 3).trans rfl⟩ (fun hHeld => ?_)
            clear hK K
            refine norm_ (a' := ?_) ?_ ?_
            rotate_left
            · show Act.put _ (some 43) _ = _
              simp only [Act.put, List.setIfInBounds_toArray, List.set_cons_zero, List.set_cons_succ, i64_w, i32_w]
              rfl
            refine pure_ (i := 4) (N := some 44) (v := ?_) (a' := ?_) #[true, true, true, true, true] rfl rfl (by kernel_rfl) (fun _ _ _ h => h) (Or.inl ⟨by rfl, ?_⟩) ?_ ?_
            rotate_left
            · intro w'
              go_simp
              with_reducible rfl
            rotate_left
            · simp only [Act.put, List.setIfInBounds_toArray, List.set_cons_zero, List.set_cons_succ, i64_w, i32_w]
              rfl
            refine done_ (by kernel_rfl) ?_
            try go_wp2
            go_ret
            exact ⟨Kit.er, Kit.bl⟩
          · replace c61 := Bool.eq_false_iff.mpr c61
            subst c61
            have H1 : (some false) = some r := by rw [if_neg (show ¬ (false = true) by decide)] at H; exact H
            clear H
            have H := H1
            clear H1
            obtain rfl := Option.some.inj H
            go_enter Try.func12, Try.ntmps12
            try go_wp2_with (first | ((with_reducible refine gate_dst (N := 2) rfl ?_); refine box_event ?hg (N := 2) ?hd (cs := #[.int .i64 a0_0, .int .i64 a0_1, .slice A0_2 l0_2.length c0_2, .int .i64 a0_3]) (t := 59) ?hr ?_; (case hd => rfl); (case hg => rfl); (case hr => exact Kit.hr); intro gb238 hg w100 hbox hb; have BK238 := Aside0.mk (hbox); have GW238 := Aside0.mk (Kit.gx (w := w) hg); have GE238 := Aside0.mk (Kit.gx (w := w) hg); replace HB := Aside0.mk (below_step Kit.bl hb); clear hb hbox hg) | ((with_reducible refine gate_dst (N := 3) rfl ?_); refine box_event ?hg (N := 3) ?hd (cs := #[.int .i64 a1_0, .int .i64 a1_1, .slice A1_2 l1_2.length c1_2, .int .i64 a1_3]) (t := 59) ?hr ?_; (case hd => rfl); (case hg => rfl); (case hr => exact Kit.hr); intro gb239 hg w101 hbox hb; have BK239 := Aside0.mk (hbox); have GW239 := Aside0.mk (Kit.gx (w := w) hg); have GE239 := Aside0.mk (Kit.gx (w := w) hg); replace HB := Aside0.mk (below_step Kit.bl hb); have NB238_239 := Aside0.mk (Kit.nlt hg BK238.out); have NB239_238 := Aside0.mk (Kit.ngt hg BK238.out); replace BK238 := Aside0.mk (Kit.bb BK238.out hb); clear hb hbox hg; have hnb102 := NB238_239.out; have hnc102 := NB239_238.out; obtain ⟨hcz103_0, hcz103_1, hcz103_2, hcz103_3, hfz103_0, hfz103_1, hfz103_2, hfz103_3⟩ := Kit.c4 BK238.out) | ((with_reducible refine gate_callee (f := 42) rfl ?_); refine goesL_ (some 12) rfl rfl Try.func42 (by kernel_rfl) rfl #[.agg #[.int .i64 a0_0, .int .i64 a0_1, .slice A0_2 l0_2.length c0_2, .int .i64 a0_3], .int .i64 1048576] rfl Kit.am ?_; (with_reducible refine (laws_szShard.calls k a0_0 a0_1 _ _ l0_2 a0_3 1048576 t240 _ ?side1 ?side2 A3.out).mono ?_); (case side1 => exact Kit.cx ((Kd.C_below HR0_2.out HB.out))); (case side2 => exact HC0_2.out); rintro e w104 ⟨rfl, hb⟩; refine ⟨_, rfl, ?_⟩; replace BK238 := Aside0.mk (Kit.bb BK238.out hb); replace BK239 := Aside0.mk (Kit.bb BK239.out hb); replace HB := Aside0.mk (below_step Kit.bl hb); (try clear hb); (try clear hb2); (try clear hk); (try clear hi); obtain ⟨hcz105_0, hcz105_1, hcz105_2, hcz105_3, hfz105_0, hfz105_1, hfz105_2, hfz105_3⟩ := Kit.c4 BK239.out) | ((with_reducible refine gate_callee (f := 42) rfl ?_); refine goesL_ (some 17) rfl rfl Try.func42 (by kernel_rfl) rfl #[.agg #[.int .i64 a1_0, .int .i64 a1_1, .slice A1_2 l1_2.length c1_2, .int .i64 a1_3], .int .i64 t240] rfl Kit.am ?_; (with_reducible refine (laws_szShard.calls k a1_0 a1_1 _ _ l1_2 a1_3 t240 t241 _ ?side1 ?side2 A10.out).mono ?_); (case side1 => exact Kit.cx ((Kd.C_below HR1_2.out HB.out))); (case side2 => exact HC1_2.out); rintro e w106 ⟨rfl, hb⟩; refine ⟨_, rfl, ?_⟩; replace BK238 := Aside0.mk (Kit.bb BK238.out hb); replace BK239 := Aside0.mk (Kit.bb BK239.out hb); replace HB := Aside0.mk (below_step Kit.bl hb); (try clear hb); (try clear hb2); (try clear hk); (try clear hi)))
            replace BK238 := Aside0.mk (blk_drew BK238.out)
            replace BK239 := Aside0.mk (blk_drew BK239.out)
            replace HB := Aside0.mk (below_drew1 HB.out)
            refine start_ (n := 6) (S := fun w' => w'.cell? ⟨gb238, 0, none⟩ = some (.int .i64 a0_0) ∧ w'.cell? ⟨gb238, 1, none⟩ = some (.int .i64 a0_1) ∧ w'.cell? ⟨gb238, 2, none⟩ = some (.slice A0_2 l0_2.length c0_2) ∧ w'.cell? ⟨gb238, 3, none⟩ = some (.int .i64 a0_3) ∧ w'.cell? ⟨gb239, 0, none⟩ = some (.int .i64 a1_0) ∧ w'.cell? ⟨gb239, 1, none⟩ = some (.int .i64 a1_1) ∧ w'.cell? ⟨gb239, 2, none⟩ = some (.slice A1_2 l1_2.length c1_2) ∧ w'.cell? ⟨gb239, 3, none⟩ = some (.int .i64 a1_3)) (ds := []) #[false, false, false, false, false, false] (by kernel_rfl) rfl rfl ⟨(blk_cell BK238.out 0).trans rfl, (blk_cell BK238.out 1).trans rfl, (blk_cell BK238.out 2).trans rfl, (blk_cell BK238.out 3).trans rfl, (blk_cell BK239.out 0).trans rfl, (blk_cell BK239.out 1).trans rfl, (blk_cell BK239.out 2).trans rfl, (blk_cell BK239.out 3).trans rfl⟩ (fun hHeld => ?_)
            generalize w106.drew = w107 at BK238 BK239 HB hHeld ⊢
            refine take_ (i := 0) (N := some 20) (v := ?_) (a' := ?_) #[true, false, false, false, false, false] rfl rfl (by kernel_rfl) (fun _ _ _ h => h) (Or.inl ⟨by rfl, ?_⟩) hHeld ?_ ?_
            rotate_left
            · rintro w' ⟨s0, s1, s2, s3, s4, s5, s6, s7⟩
              go_simp
              with_reducible rfl
            rotate_left
            · simp only [Act.put, List.setIfInBounds_toArray, List.set_cons_zero, List.set_cons_succ, i64_w, i32_w]
              rfl
            refine take_ (i := 2) (N := some 22) (v := ?_) (a' := ?_) #[true, false, true, false, false, false] rfl rfl (by kernel_rfl) (fun _ _ _ h => h) (Or.inl ⟨by rfl, ?_⟩) hHeld ?_ ?_
            rotate_left
            · rintro w' ⟨s0, s1, s2, s3, s4, s5, s6, s7⟩
              go_simp
              with_reducible rfl
            rotate_left
            · simp only [Act.put, List.setIfInBounds_toArray, List.set_cons_zero, List.set_cons_succ, i64_w, i32_w]
              rfl
            refine one_ (i := 1) (N := some 21) #[true, true, true, false, false, false] rfl rfl (by kernel_rfl) (by decide) (fun K hK => ?_)
            refine goes_ Try.func44 (by kernel_rfl) rfl #[.agg #[.int .i64 a0_0, .int .i64 a0_1, .slice A0_2 l0_2.length c0_2, .int .i64 a0_3]] (by rfl) rfl rfl Kit.am ?_
            with_reducible refine (laws_toShard.calls k a0_0 a0_1 _ _ l0_2 a0_3 t242 t243 t244 t247 _ ?side1 ?side2 A19.out).mono ?_
            (case side1 => exact Kit.cx ((Kd.C_below HR0_2.out HB.out)))
            (case side2 => exact HC0_2.out)
            rintro e w108 ⟨v245, rfl, ho0, hb⟩
            refine ⟨_, rfl, ?_⟩
            have HO246 := Aside0.mk (Kd.S_lower ho0 Kit.bz)
            replace BK238 := Aside0.mk (Kit.bb BK238.out hb)
            replace BK239 := Aside0.mk (Kit.bb BK239.out hb)
            replace HB := Aside0.mk (below_step Kit.bl hb)
            (try clear hb)
            (try clear hb2)
            (try clear hk)
            (try clear hi)
            (try clear ho0)
            refine hK.out _ _ ⟨(blk_cell BK238.out 0).trans rfl, (blk_cell BK238.out 1).trans rfl, (blk_cell BK238.out 2).trans rfl, (blk_cell BK238.out 3).trans rfl, (blk_cell BK239.out 0).trans rfl, (blk_cell BK239.out 1).trans rfl, (blk_cell BK239.out 2).trans rfl, (blk_cell BK239.out 3).trans rfl⟩ (fun hHeld => ?_)
            clear hK K
            refine norm_ (a' := ?_) ?_ ?_
            rotate_left
            · show Act.put _ (some 21) _ = _
              simp only [Act.put, List.setIfInBounds_toArray, List.set_cons_zero, List.set_cons_succ, i64_w, i32_w]
              rfl
            refine one_ (i := 3) (N := some 23) #[true, true, true, true, false, false] rfl rfl (by kernel_rfl) (by decide) (fun K hK => ?_)
            refine goes_ Try.func44 (by kernel_rfl) rfl #[.agg #[.int .i64 a1_0, .int .i64 a1_1, .slice A1_2 l1_2.length c1_2, .int .i64 a1_3]] (by rfl) rfl rfl Kit.am ?_
            with_reducible refine (laws_toShard.calls k a1_0 a1_1 _ _ l1_2 a1_3 t248 t249 t250 t253 _ ?side1 ?side2 A20.out).mono ?_
            (case side1 => exact Kit.cx ((Kd.C_below HR1_2.out HB.out)))
            (case side2 => exact HC1_2.out)
            rintro e w109 ⟨v251, rfl, ho0, hb⟩
            refine ⟨_, rfl, ?_⟩
            have HO252 := Aside0.mk (Kd.S_lower (Kd.S_new' ho0 (Kd.S_lt (Kit.sx HO246.out))) Kit.bz)
            replace HO246 := Aside0.mk (Kd.S_elder' (Kit.sx HO246.out) (Kd.S_base ho0) hb)
            replace BK238 := Aside0.mk (Kit.bb BK238.out hb)
            replace BK239 := Aside0.mk (Kit.bb BK239.out hb)
            replace HB := Aside0.mk (below_step Kit.bl hb)
            (try clear hb)
            (try clear hb2)
            (try clear hk)
            (try clear hi)
            (try clear ho0)
            obtain ⟨Ao110, co110, eo110⟩ := Kd.S_slice HO246.out
            (first | subst eo110 | (injection eo110 with f1_ f2_ f3_; have f4_ := f1_.symm; have f5_ := f3_.symm; clear f1_ f2_ f3_; subst f4_; subst f5_))
            obtain ⟨Ao111, co111, eo111⟩ := Kd.S_slice HO252.out
            (first | subst eo111 | (injection eo111 with f1_ f2_ f3_; have f4_ := f1_.symm; have f5_ := f3_.symm; clear f1_ f2_ f3_; subst f4_; subst f5_))
            refine hK.out _ _ ⟨(blk_cell BK238.out 0).trans rfl, (blk_cell BK238.out 1).trans rfl, (blk_cell BK238.out 2).trans rfl, (blk_cell BK238.out 3).trans rfl, (blk_cell BK239.out 0).trans rfl, (blk_cell BK239.out 1).trans rfl, (blk_cell BK239.out 2).trans rfl, (blk_cell BK239.out 3).trans rfl⟩ (fun hHeld => ?_)
            clear hK K
            refine norm_ (a' := ?_) ?_ ?_
            rotate_left
            · show Act.put _ (some 23) _ = _
              simp only [Act.put, List.setIfInBounds_toArray, List.set_cons_zero, List.set_cons_succ, i64_w, i32_w]
              rfl
            refine one_ (i := 4) (N := some 24) #[true, true, true, true, true, false] rfl rfl (by kernel_rfl) (by decide) (fun K hK => ?_)
            refine goes_ Try.func43 (by kernel_rfl) rfl #[.agg #[.int .i64 t242, .int .i64 t243, .slice Ao110 t244.length co110, .int .i64 t247], .agg #[.int .i64 t248, .int .i64 t249, .slice Ao111 t250.length co111, .int .i64 t253]] (by rfl) rfl rfl Kit.am ?_
            with_reducible refine (spec_SameShard.calls k t242 t243 _ _ t244 t247 t248 t249 _ _ t250 t253 t254 _ ?side1 ?side2 ?side3 ?side4 A21.out).mono ?_
            (case side1 => exact Kit.cx ((Kd.S_reads' HO246.out).2.2))
            (case side2 => exact (Kd.S_reads' HO246.out).2.1)
            (case side3 => exact Kit.cx ((Kd.S_reads' HO252.out).2.2))
            (case side4 => exact (Kd.S_reads' HO252.out).2.1)
            rintro e w112 ⟨rfl, hb⟩
            refine ⟨_, rfl, ?_⟩
            replace HO246 := Aside0.mk (Kd.S_below (Kit.sx HO246.out) hb)
            replace HO252 := Aside0.mk (Kd.S_below (Kit.sx HO252.out) hb)
            replace BK238 := Aside0.mk (Kit.bb BK238.out hb)
            replace BK239 := Aside0.mk (Kit.bb BK239.out hb)
            replace HB := Aside0.mk (below_step Kit.bl hb)
            (try clear hb)
            (try clear hb2)
            (try clear hk)
            (try clear hi)
            refine hK.out _ _ ⟨(blk_cell BK238.out 0).trans rfl, (blk_cell BK238.out 1).trans rfl, (blk_cell BK238.out 2).trans rfl, (blk_cell BK238.out 3).trans rfl, (blk_cell BK239.out 0).trans rfl, (blk_cell BK239.out 1).trans rfl, (blk_cell BK239.out 2).trans rfl, (blk_cell BK239.out 3).trans rfl⟩ (fun hHeld => ?_)
            clear hK K
            refine norm_ (a' := ?_) ?_ ?_
            rotate_left
            · show Act.put _ (some 24) _ = _
              simp only [Act.put, List.setIfInBounds_toArray, List.set_cons_zero, List.set_cons_succ, i64_w, i32_w]
              rfl
            refine pure_ (i := 5) (N := some 6) (v := ?_) (a' := ?_) #[true, true, true, true, true, true] rfl rfl (by kernel_rfl) (fun _ _ _ h => h) (Or.inl ⟨by rfl, ?_⟩) ?_ ?_
            rotate_left
            · intro w'
              go_simp
              with_reducible rfl
            rotate_left
            · simp only [Act.put, List.setIfInBounds_toArray, List.set_cons_zero, List.set_cons_succ, i64_w, i32_w]
              rfl
            refine done_ (by kernel_rfl) ?_
            obtain ⟨hcz113_0, hcz113_1, hcz113_2, hcz113_3, hfz113_0, hfz113_1, hfz113_2, hfz113_3⟩ := Kit.c4 BK238.out
            try go_wp2_with (first | ((with_reducible refine gate_callee (f := 44) rfl ?_); refine goesL_ (some 26) rfl rfl Try.func44 (by kernel_rfl) rfl #[.agg #[.int .i64 a0_0, .int .i64 a0_1, .slice A0_2 l0_2.length c0_2, .int .i64 a0_3]] rfl Kit.am ?_; (with_reducible refine (laws_toShard.calls k a0_0 a0_1 _ _ l0_2 a0_3 t255 t256 t257 t260 _ ?side1 ?side2 A22.out).mono ?_); (case side1 => exact Kit.cx ((Kd.C_below HR0_2.out HB.out))); (case side2 => exact HC0_2.out); rintro e w114 ⟨v258, rfl, ho0, hb⟩; refine ⟨_, rfl, ?_⟩; have one_v258 : (v258 : Value).oneCell' = true := Kit.ov0; have HO259 := Aside0.mk (Kd.S_lower (Kd.S_new' (Kd.S_new' ho0 (Kd.S_lt (Kit.sx HO246.out))) (Kd.S_lt (Kit.sx HO252.out))) Kit.bz); replace HO246 := Aside0.mk (Kd.S_elder' (Kit.sx HO246.out) (Kd.S_base ho0) hb); replace HO252 := Aside0.mk (Kd.S_elder' (Kit.sx HO252.out) (Kd.S_base ho0) hb); replace BK238 := Aside0.mk (Kit.bb BK238.out hb); replace BK239 := Aside0.mk (Kit.bb BK239.out hb); replace HB := Aside0.mk (below_step Kit.bl hb); (try clear hb); (try clear hb2); (try clear hk); (try clear hi); (try clear ho0)) | ((with_reducible refine gate_dst (N := 7) rfl ?_); refine box_event ?hg (N := 7) ?hd (cs := #[.int .i64 0, .int .i64 0, .slice none 0 0, .int .i64 0]) (t := 51) ?hr ?_; (case hd => rfl); (case hg => rfl); (case hr => exact Kit.hr); intro gb261 hg w115 hbox hb; replace HO246 := Aside0.mk (Kd.S_below (Kit.sx HO246.out) hb); replace HO252 := Aside0.mk (Kd.S_below (Kit.sx HO252.out) hb); replace HO259 := Aside0.mk (Kd.S_below (Kit.sx HO259.out) hb); have BK261 := Aside0.mk (hbox); have GW261 := Aside0.mk (Kit.gx (w := w) hg); have GE261 := Aside0.mk (Kit.gx (w := w) hg); replace HB := Aside0.mk (below_step Kit.bl hb); have NB238_261 := Aside0.mk (Kit.nlt hg BK238.out); have NB261_238 := Aside0.mk (Kit.ngt hg BK238.out); replace BK238 := Aside0.mk (Kit.bb BK238.out hb); have NB239_261 := Aside0.mk (Kit.nlt hg BK239.out); have NB261_239 := Aside0.mk (Kit.ngt hg BK239.out); replace BK239 := Aside0.mk (Kit.bb BK239.out hb); clear hb hbox hg; have hnb116 := NB261_238.out; have hnc116 := NB238_261.out; have hnb117 := NB261_239.out; have hnc117 := NB239_261.out; obtain ⟨hcz118_0, hcz118_1, hcz118_2, hcz118_3, hfz118_0, hfz118_1, hfz118_2, hfz118_3⟩ := Kit.c4 BK261.out; obtain ⟨Ao119, co119, eo119⟩ := Kd.S_slice HO259.out; subst eo119; obtain ⟨hcz120_0, hcz120_1, hcz120_2, hcz120_3, hfz120_0, hfz120_1, hfz120_2, hfz120_3⟩ := Kit.c4 BK239.out) | ((with_reducible refine gate_callee (f := 44) rfl ?_); refine goesL_ (some 28) rfl rfl Try.func44 (by kernel_rfl) rfl #[.agg #[.int .i64 a1_0, .int .i64 a1_1, .slice A1_2 l1_2.length c1_2, .int .i64 a1_3]] rfl Kit.am ?_; (with_reducible refine (laws_toShard.calls k a1_0 a1_1 _ _ l1_2 a1_3 t262 t263 t264 t267 _ ?side1 ?side2 A23.out).mono ?_); (case side1 => exact Kd.C_below HR1_2.out Kit.bl); (case side2 => exact HC1_2.out); rintro e w121 ⟨v265, rfl, ho0, hb⟩; refine ⟨_, rfl, ?_⟩; have one_v265 : (v265 : Value).oneCell' = true := Kit.ov0; have n0_ := Aside0.mk (Kd.S_elder' (by (with_reducible repeat (first | apply Kd.S_alloc | apply Kd.S_drewN | apply Kd.S_drew)); exact (Kd.S_mono (Kd.S_far (p := ⟨gb261, 3, none⟩) (Kd.S_far (p := ⟨gb261, 2, none⟩) (Kd.S_far (p := ⟨gb261, 1, none⟩) (Kd.S_far (p := ⟨gb261, 0, none⟩) (Kd.S_types HO246.out BK261.out (by decide)) (fun _ hk => hk.2) (.int .i64 t255)) (fun _ hk => hk.2) (.int .i64 t256)) (fun _ hk => hk.2) (.slice Ao119 t257.length co119)) (fun _ hk => hk.2) (.int .i64 t260)) (fun _ h_ => h_.1))) (Kd.S_base ho0) hb); have n1_ := Aside0.mk (Kd.S_elder' (by (with_reducible repeat (first | apply Kd.S_alloc | apply Kd.S_drewN | apply Kd.S_drew)); exact (Kd.S_mono (Kd.S_far (p := ⟨gb261, 3, none⟩) (Kd.S_far (p := ⟨gb261, 2, none⟩) (Kd.S_far (p := ⟨gb261, 1, none⟩) (Kd.S_far (p := ⟨gb261, 0, none⟩) (Kd.S_types HO252.out BK261.out (by decide)) (fun _ hk => hk.2) (.int .i64 t255)) (fun _ hk => hk.2) (.int .i64 t256)) (fun _ hk => hk.2) (.slice Ao119 t257.length co119)) (fun _ hk => hk.2) (.int .i64 t260)) (fun _ h_ => h_.1))) (Kd.S_base ho0) hb); have n2_ := Aside0.mk (Kd.S_elder' (by (with_reducible repeat (first | apply Kd.S_alloc | apply Kd.S_drewN | apply Kd.S_drew)); exact (Kd.S_mono (Kd.S_far (p := ⟨gb261, 3, none⟩) (Kd.S_far (p := ⟨gb261, 2, none⟩) (Kd.S_far (p := ⟨gb261, 1, none⟩) (Kd.S_far (p := ⟨gb261, 0, none⟩) (Kd.S_types HO259.out BK261.out (by decide)) (fun _ hk => hk.2) (.int .i64 t255)) (fun _ hk => hk.2) (.int .i64 t256)) (fun _ hk => hk.2) (.slice Ao119 t257.length co119)) (fun _ hk => hk.2) (.int .i64 t260)) (fun _ h_ => h_.1))) (Kd.S_base ho0) hb); have n3_ := Aside0.mk (Kd.S_lower (Kd.S_new' (Kd.S_new' (Kd.S_new' ho0 (Kd.S_lt (by (with_reducible repeat (first | apply Kd.S_alloc | apply Kd.S_drewN | apply Kd.S_drew)); exact (Kd.S_mono (Kd.S_far (p := ⟨gb261, 3, none⟩) (Kd.S_far (p := ⟨gb261, 2, none⟩) (Kd.S_far (p := ⟨gb261, 1, none⟩) (Kd.S_far (p := ⟨gb261, 0, none⟩) (Kd.S_types HO246.out BK261.out (by decide)) (fun _ hk => hk.2) (.int .i64 t255)) (fun _ hk => hk.2) (.int .i64 t256)) (fun _ hk => hk.2) (.slice Ao119 t257.length co119)) (fun _ hk => hk.2) (.int .i64 t260)) (fun _ h_ => h_.1))))) (Kd.S_lt (by (with_reducible repeat (first | apply Kd.S_alloc | apply Kd.S_drewN | apply Kd.S_drew)); exact (Kd.S_mono (Kd.S_far (p := ⟨gb261, 3, none⟩) (Kd.S_far (p := ⟨gb261, 2, none⟩) (Kd.S_far (p := ⟨gb261, 1, none⟩) (Kd.S_far (p := ⟨gb261, 0, none⟩) (Kd.S_types HO252.out BK261.out (by decide)) (fun _ hk => hk.2) (.int .i64 t255)) (fun _ hk => hk.2) (.int .i64 t256)) (fun _ hk => hk.2) (.slice Ao119 t257.length co119)) (fun _ hk => hk.2) (.int .i64 t260)) (fun _ h_ => h_.1))))) (Kd.S_lt (by (with_reducible repeat (first | apply Kd.S_alloc | apply Kd.S_drewN | apply Kd.S_drew)); exact (Kd.S_mono (Kd.S_far (p := ⟨gb261, 3, none⟩) (Kd.S_far (p := ⟨gb261, 2, none⟩) (Kd.S_far (p := ⟨gb261, 1, none⟩) (Kd.S_far (p := ⟨gb261, 0, none⟩) (Kd.S_types HO259.out BK261.out (by decide)) (fun _ hk => hk.2) (.int .i64 t255)) (fun _ hk => hk.2) (.int .i64 t256)) (fun _ hk => hk.2) (.slice Ao119 t257.length co119)) (fun _ hk => hk.2) (.int .i64 t260)) (fun _ h_ => h_.1))))) Kit.bz); have n4_ := Aside0.mk (Kit.bf BK238.out hb); have n5_ := Aside0.mk (Kit.bf BK239.out hb); have n6_ := Aside0.mk (blk_below (g := gb261) (o := .cells #[.int .i64 t255, .int .i64 t256, .slice Ao119 t257.length co119, .int .i64 t260] 51 (0, 0)) (by (with_reducible repeat (first | refine blk_drewN ?_ _ | refine blk_drew ?_ | refine blk_alloc ?_ _)); refine blk_put (cs := #[.int .i64 t255, .int .i64 t256, .slice Ao119 t257.length co119, .int .i64 0]) ?_ 3 _ rfl; (with_reducible repeat (first | refine blk_drewN ?_ _ | refine blk_drew ?_ | refine blk_alloc ?_ _)); refine blk_put (cs := #[.int .i64 t255, .int .i64 t256, .slice none 0 0, .int .i64 0]) ?_ 2 _ rfl; (with_reducible repeat (first | refine blk_drewN ?_ _ | refine blk_drew ?_ | refine blk_alloc ?_ _)); refine blk_put (cs := #[.int .i64 t255, .int .i64 0, .slice none 0 0, .int .i64 0]) ?_ 1 _ rfl; (with_reducible repeat (first | refine blk_drewN ?_ _ | refine blk_drew ?_ | refine blk_alloc ?_ _)); refine blk_put (cs := #[.int .i64 0, .int .i64 0, .slice none 0 0, .int .i64 0]) ?_ 0 _ rfl; (with_reducible repeat (first | refine blk_drewN ?_ _ | refine blk_drew ?_ | refine blk_alloc ?_ _)); exact BK261.out) hb); have n7_ := Aside0.mk (below_step Kit.bl hb); clear HO246; clear HO252; clear HO259; clear BK238; clear BK239; clear BK261; clear HB; have HO246 := n0_; have HO252 := n1_; have HO259 := n2_; have HO266 := n3_; have BK238 := n4_; have BK239 := n5_; have BK261 := n6_; have HB := n7_; clear n0_ n1_ n2_ n3_ n4_ n5_ n6_ n7_; (try clear hb); (try clear hb2); (try clear hk); (try clear hi); (try clear ho0)) | ((with_reducible refine gate_dst (N := 8) rfl ?_); refine box_event ?hg (N := 8) ?hd (cs := #[.int .i64 0, .int .i64 0, .slice none 0 0, .int .i64 0]) (t := 51) ?hr ?_; (case hd => rfl); (case hg => rfl); (case hr => exact Kit.hr); intro gb268 hg w122 hbox hb; replace HO246 := Aside0.mk (Kd.S_below (Kit.sx HO246.out) hb); replace HO252 := Aside0.mk (Kd.S_below (Kit.sx HO252.out) hb); replace HO259 := Aside0.mk (Kd.S_below (Kit.sx HO259.out) hb); replace HO266 := Aside0.mk (Kd.S_below (Kit.sx HO266.out) hb); have BK268 := Aside0.mk (hbox); have GW268 := Aside0.mk (Kit.gx (w := w) hg); have GE268 := Aside0.mk (Kit.gx (w := w) hg); replace HB := Aside0.mk (below_step Kit.bl hb); have NB238_268 := Aside0.mk (Kit.nlt hg BK238.out); have NB268_238 := Aside0.mk (Kit.ngt hg BK238.out); replace BK238 := Aside0.mk (Kit.bb BK238.out hb); have NB239_268 := Aside0.mk (Kit.nlt hg BK239.out); have NB268_239 := Aside0.mk (Kit.ngt hg BK239.out); replace BK239 := Aside0.mk (Kit.bb BK239.out hb); have NB261_268 := Aside0.mk (Kit.nlt hg BK261.out); have NB268_261 := Aside0.mk (Kit.ngt hg BK261.out); replace BK261 := Aside0.mk (Kit.bb BK261.out hb); clear hb hbox hg; have hnb123 := NB268_238.out; have hnc123 := NB238_268.out; have hnb124 := NB268_239.out; have hnc124 := NB239_268.out; have hnb125 := NB268_261.out; have hnc125 := NB261_268.out; obtain ⟨hcz126_0, hcz126_1, hcz126_2, hcz126_3, hfz126_0, hfz126_1, hfz126_2, hfz126_3⟩ := Kit.c4 BK268.out; obtain ⟨Ao127, co127, eo127⟩ := Kd.S_slice HO266.out; subst eo127; obtain ⟨hcz128_0, hcz128_1, hcz128_2, hcz128_3, hfz128_0, hfz128_1, hfz128_2, hfz128_3⟩ := Kit.c4 BK261.out) | ((with_reducible refine gate_callee (f := 45) rfl ?_); refine goesL_ (some 31) rfl rfl Try.func45 (by kernel_rfl) rfl #[.agg #[.int .i64 t255, .int .i64 t256, .slice Ao119 t257.length co119, .int .i64 t260], .agg #[.int .i64 t262, .int .i64 t263, .slice Ao127 t264.length co127, .int .i64 t267]] rfl Kit.am ?_; (with_reducible refine (impl_SameShard.calls k t255 t256 _ _ t257 t260 t262 t263 _ _ t264 t267 t269 _ ?side1 ?side2 ?side3 ?side4 A24.out).mono ?_); (case side1 => refine (Kd.S_reads' (e := 87) (base := w.heap.size) (ok := fun k_ => (((True ∧ some k_ ≠ (.slice Ao110 t244.length co110 : Value).ownBlock) ∧ some k_ ≠ (.slice Ao111 t250.length co111 : Value).ownBlock) ∧ some k_ ≠ (.slice Ao127 t264.length co127 : Value).ownBlock)) (n := t257.length) (c := co119) ?_).2.2; exact (by (with_reducible repeat (first | apply Kd.S_alloc | apply Kd.S_drewN | apply Kd.S_drew)); exact (Kd.S_mono (Kd.S_far (p := ⟨gb268, 3, none⟩) (Kd.S_far (p := ⟨gb268, 2, none⟩) (Kd.S_far (p := ⟨gb268, 1, none⟩) (Kd.S_far (p := ⟨gb268, 0, none⟩) (Kd.S_types HO259.out BK268.out (by decide)) (fun _ hk => hk.2) (.int .i64 t262)) (fun _ hk => hk.2) (.int .i64 t263)) (fun _ hk => hk.2) (.slice Ao127 t264.length co127)) (fun _ hk => hk.2) (.int .i64 t267)) (fun _ h_ => h_.1)))); (case side2 => exact (Kd.S_reads' HO259.out).2.1); (case side3 => refine (Kd.S_reads' (e := 87) (base := w.heap.size) (ok := fun k_ => (((True ∧ some k_ ≠ (.slice Ao110 t244.length co110 : Value).ownBlock) ∧ some k_ ≠ (.slice Ao111 t250.length co111 : Value).ownBlock) ∧ some k_ ≠ (.slice Ao119 t257.length co119 : Value).ownBlock)) (n := t264.length) (c := co127) ?_).2.2; exact (by (with_reducible repeat (first | apply Kd.S_alloc | apply Kd.S_drewN | apply Kd.S_drew)); exact (Kd.S_mono (Kd.S_far (p := ⟨gb268, 3, none⟩) (Kd.S_far (p := ⟨gb268, 2, none⟩) (Kd.S_far (p := ⟨gb268, 1, none⟩) (Kd.S_far (p := ⟨gb268, 0, none⟩) (Kd.S_types HO266.out BK268.out (by decide)) (fun _ hk => hk.2) (.int .i64 t262)) (fun _ hk => hk.2) (.int .i64 t263)) (fun _ hk => hk.2) (.slice Ao127 t264.length co127)) (fun _ hk => hk.2) (.int .i64 t267)) (fun _ h_ => h_.1)))); (case side4 => exact (Kd.S_reads' HO266.out).2.1); rintro e w129 ⟨rfl, hb⟩; refine ⟨_, rfl, ?_⟩; have n0_ := Aside0.mk (Kd.S_below (by (with_reducible repeat (first | apply Kd.S_alloc | apply Kd.S_drewN | apply Kd.S_drew)); exact (Kd.S_mono (Kd.S_far (p := ⟨gb268, 3, none⟩) (Kd.S_far (p := ⟨gb268, 2, none⟩) (Kd.S_far (p := ⟨gb268, 1, none⟩) (Kd.S_far (p := ⟨gb268, 0, none⟩) (Kd.S_types HO246.out BK268.out (by decide)) (fun _ hk => hk.2) (.int .i64 t262)) (fun _ hk => hk.2) (.int .i64 t263)) (fun _ hk => hk.2) (.slice Ao127 t264.length co127)) (fun _ hk => hk.2) (.int .i64 t267)) (fun _ h_ => h_.1))) hb); have n1_ := Aside0.mk (Kd.S_below (by (with_reducible repeat (first | apply Kd.S_alloc | apply Kd.S_drewN | apply Kd.S_drew)); exact (Kd.S_mono (Kd.S_far (p := ⟨gb268, 3, none⟩) (Kd.S_far (p := ⟨gb268, 2, none⟩) (Kd.S_far (p := ⟨gb268, 1, none⟩) (Kd.S_far (p := ⟨gb268, 0, none⟩) (Kd.S_types HO252.out BK268.out (by decide)) (fun _ hk => hk.2) (.int .i64 t262)) (fun _ hk => hk.2) (.int .i64 t263)) (fun _ hk => hk.2) (.slice Ao127 t264.length co127)) (fun _ hk => hk.2) (.int .i64 t267)) (fun _ h_ => h_.1))) hb); have n2_ := Aside0.mk (Kd.S_below (by (with_reducible repeat (first | apply Kd.S_alloc | apply Kd.S_drewN | apply Kd.S_drew)); exact (Kd.S_mono (Kd.S_far (p := ⟨gb268, 3, none⟩) (Kd.S_far (p := ⟨gb268, 2, none⟩) (Kd.S_far (p := ⟨gb268, 1, none⟩) (Kd.S_far (p := ⟨gb268, 0, none⟩) (Kd.S_types HO259.out BK268.out (by decide)) (fun _ hk => hk.2) (.int .i64 t262)) (fun _ hk => hk.2) (.int .i64 t263)) (fun _ hk => hk.2) (.slice Ao127 t264.length co127)) (fun _ hk => hk.2) (.int .i64 t267)) (fun _ h_ => h_.1))) hb); have n3_ := Aside0.mk (Kd.S_below (by (with_reducible repeat (first | apply Kd.S_alloc | apply Kd.S_drewN | apply Kd.S_drew)); exact (Kd.S_mono (Kd.S_far (p := ⟨gb268, 3, none⟩) (Kd.S_far (p := ⟨gb268, 2, none⟩) (Kd.S_far (p := ⟨gb268, 1, none⟩) (Kd.S_far (p := ⟨gb268, 0, none⟩) (Kd.S_types HO266.out BK268.out (by decide)) (fun _ hk => hk.2) (.int .i64 t262)) (fun _ hk => hk.2) (.int .i64 t263)) (fun _ hk => hk.2) (.slice Ao127 t264.length co127)) (fun _ hk => hk.2) (.int .i64 t267)) (fun _ h_ => h_.1))) hb); have n4_ := Aside0.mk (Kit.bf BK238.out hb); have n5_ := Aside0.mk (Kit.bf BK239.out hb); have n6_ := Aside0.mk (Kit.bf BK261.out hb); have n7_ := Aside0.mk (blk_below (g := gb268) (o := .cells #[.int .i64 t262, .int .i64 t263, .slice Ao127 t264.length co127, .int .i64 t267] 51 (0, 0)) (by (with_reducible repeat (first | refine blk_drewN ?_ _ | refine blk_drew ?_ | refine blk_alloc ?_ _)); refine blk_put (cs := #[.int .i64 t262, .int .i64 t263, .slice Ao127 t264.length co127, .int .i64 0]) ?_ 3 _ rfl; (with_reducible repeat (first | refine blk_drewN ?_ _ | refine blk_drew ?_ | refine blk_alloc ?_ _)); refine blk_put (cs := #[.int .i64 t262, .int .i64 t263, .slice none 0 0, .int .i64 0]) ?_ 2 _ rfl; (with_reducible repeat (first | refine blk_drewN ?_ _ | refine blk_drew ?_ | refine blk_alloc ?_ _)); refine blk_put (cs := #[.int .i64 t262, .int .i64 0, .slice none 0 0, .int .i64 0]) ?_ 1 _ rfl; (with_reducible repeat (first | refine blk_drewN ?_ _ | refine blk_drew ?_ | refine blk_alloc ?_ _)); refine blk_put (cs := #[.int .i64 0, .int .i64 0, .slice none 0 0, .int .i64 0]) ?_ 0 _ rfl; (with_reducible repeat (first | refine blk_drewN ?_ _ | refine blk_drew ?_ | refine blk_alloc ?_ _)); exact BK268.out) hb); have n8_ := Aside0.mk (below_step Kit.bl hb); clear HO246; clear HO252; clear HO259; clear HO266; clear BK238; clear BK239; clear BK261; clear BK268; clear HB; have HO246 := n0_; have HO252 := n1_; have HO259 := n2_; have HO266 := n3_; have BK238 := n4_; have BK239 := n5_; have BK261 := n6_; have BK268 := n7_; have HB := n8_; clear n0_ n1_ n2_ n3_ n4_ n5_ n6_ n7_ n8_; (try clear hb); (try clear hb2); (try clear hk); (try clear hi)))
            have n0_ := Aside0.mk (Kd.S_drew HO246.out)
            have n1_ := Aside0.mk (Kd.S_drew HO252.out)
            have n2_ := Aside0.mk (Kd.S_drew HO259.out)
            have n3_ := Aside0.mk (Kd.S_drew HO266.out)
            have n4_ := Aside0.mk (blk_drew BK238.out)
            have n5_ := Aside0.mk (blk_drew BK239.out)
            have n6_ := Aside0.mk (blk_drew BK261.out)
            have n7_ := Aside0.mk (blk_drew BK268.out)
            have n8_ := Aside0.mk (below_drew1 HB.out)
            clear HO246
            clear HO252
            clear HO259
            clear HO266
            clear BK238
            clear BK239
            clear BK261
            clear BK268
            clear HB
            have HO246 := n0_
            have HO252 := n1_
            have HO259 := n2_
            have HO266 := n3_
            have BK238 := n4_
            have BK239 := n5_
            have BK261 := n6_
            have BK268 := n7_
            have HB := n8_
            clear n0_ n1_ n2_ n3_ n4_ n5_ n6_ n7_ n8_
            refine start_ (n := 5) (S := fun w' => w'.cell? ⟨gb261, 0, none⟩ = some (.int .i64 t255) ∧ w'.cell? ⟨gb261, 1, none⟩ = some (.int .i64 t256) ∧ w'.cell? ⟨gb261, 2, none⟩ = some (.slice Ao119 t257.length co119) ∧ w'.cell? ⟨gb261, 3, none⟩ = some (.int .i64 t260) ∧ w'.cell? ⟨gb238, 0, none⟩ = some (.int .i64 a0_0) ∧ w'.cell? ⟨gb238, 1, none⟩ = some (.int .i64 a0_1) ∧ w'.cell? ⟨gb238, 2, none⟩ = some (.slice A0_2 l0_2.length c0_2) ∧ w'.cell? ⟨gb238, 3, none⟩ = some (.int .i64 a0_3)) (ds := []) #[false, false, false, false, false] (by kernel_rfl) rfl rfl ⟨(blk_cell BK261.out 0).trans rfl, (blk_cell BK261.out 1).trans rfl, (blk_cell BK261.out 2).trans rfl, (blk_cell BK261.out 3).trans rfl, (blk_cell BK238.out 0).trans rfl, (blk_cell BK238.out 1).trans rfl, (blk_cell BK238.out 2).trans rfl, (blk_cell BK238.out 3).trans rfl⟩ (fun hHeld => ?_)
            generalize w129.drew = w130 at HO246 HO252 HO259 HO266 BK238 BK239 BK261 BK268 HB hHeld ⊢
            refine take_ (i := 0) (N := some 35) (v := ?_) (a' := ?_) #[true, false, false, false, false] rfl rfl (by kernel_rfl) (fun _ _ _ h => h) (Or.inl ⟨by rfl, ?_⟩) hHeld ?_ ?_
            rotate_left
            · rintro w' ⟨s0, s1, s2, s3, s4, s5, s6, s7⟩
              go_simp
              with_reducible rfl
            rotate_left
            · simp only [Act.put, List.setIfInBounds_toArray, List.set_cons_zero, List.set_cons_succ, i64_w, i32_w]
              rfl
            refine take_ (i := 1) (N := some 36) (v := ?_) (a' := ?_) #[true, true, false, false, false] rfl rfl (by kernel_rfl) (fun _ _ _ h => h) (Or.inl ⟨by rfl, ?_⟩) hHeld ?_ ?_
            rotate_left
            · rintro w' ⟨s0, s1, s2, s3, s4, s5, s6, s7⟩
              go_simp
              with_reducible rfl
            rotate_left
            · simp only [Act.put, List.setIfInBounds_toArray, List.set_cons_zero, List.set_cons_succ, i64_w, i32_w]
              rfl
            refine one_ (i := 2) (N := some 37) #[true, true, true, false, false] rfl rfl (by kernel_rfl) (by decide) (fun K hK => ?_)
            refine goes_ Try.func44 (by kernel_rfl) rfl #[.agg #[.int .i64 a0_0, .int .i64 a0_1, .slice A0_2 l0_2.length c0_2, .int .i64 a0_3]] (by rfl) rfl rfl Kit.am ?_
            with_reducible refine (laws_toShard.calls k a0_0 a0_1 _ _ l0_2 a0_3 t270 t271 t272 t275 _ ?side1 ?side2 A56.out).mono ?_
            (case side1 => exact Kit.cx ((Kd.C_below HR0_2.out HB.out)))
            (case side2 => exact HC0_2.out)
            rintro e w131 ⟨v273, rfl, ho0, hb⟩
            refine ⟨_, rfl, ?_⟩
            have HO274 := Aside0.mk (Kd.S_lower (Kd.S_new' (Kd.S_new' (Kd.S_new' (Kd.S_new' ho0 (Kd.S_lt (Kit.sx HO246.out))) (Kd.S_lt (Kit.sx HO252.out))) (Kd.S_lt (Kit.sx HO259.out))) (Kd.S_lt (Kit.sx HO266.out))) Kit.bz)
            replace HO246 := Aside0.mk (Kd.S_elder' (Kit.sx HO246.out) (Kd.S_base ho0) hb)
            replace HO252 := Aside0.mk (Kd.S_elder' (Kit.sx HO252.out) (Kd.S_base ho0) hb)
            replace HO259 := Aside0.mk (Kd.S_elder' (Kit.sx HO259.out) (Kd.S_base ho0) hb)
            replace HO266 := Aside0.mk (Kd.S_elder' (Kit.sx HO266.out) (Kd.S_base ho0) hb)
            replace BK238 := Aside0.mk (Kit.bb BK238.out hb)
            replace BK239 := Aside0.mk (Kit.bb BK239.out hb)
            replace BK261 := Aside0.mk (Kit.bb BK261.out hb)
            replace BK268 := Aside0.mk (Kit.bb BK268.out hb)
            replace HB := Aside0.mk (below_step Kit.bl hb)
            (try clear hb)
            (try clear hb2)
            (try clear hk)
            (try clear hi)
            (try clear ho0)
            obtain ⟨Ao132, co132, eo132⟩ := Kd.S_slice HO274.out
            (first | subst eo132 | (injection eo132 with f1_ f2_ f3_; have f4_ := f1_.symm; have f5_ := f3_.symm; clear f1_ f2_ f3_; subst f4_; subst f5_))
            refine hK.out _ _ ⟨(blk_cell BK261.out 0).trans rfl, (blk_cell BK261.out 1).trans rfl, (blk_cell BK261.out 2).trans rfl, (blk_cell BK261.out 3).trans rfl, (blk_cell BK238.out 0).trans rfl, (blk_cell BK238.out 1).trans rfl, (blk_cell BK238.out 2).trans rfl, (blk_cell BK238.out 3).trans rfl⟩ (fun hHeld => ?_)
            clear hK K
            refine norm_ (a' := ?_) ?_ ?_
            rotate_left
            · show Act.put _ (some 37) _ = _
              simp only [Act.put, List.setIfInBounds_toArray, List.set_cons_zero, List.set_cons_succ, i64_w, i32_w]
              rfl
            refine one_ (i := 3) (N := some 38) #[true, true, true, true, false] rfl rfl (by kernel_rfl) (by decide) (fun K hK => ?_)
            refine goes_ Try.func37 (by kernel_rfl) rfl #[.agg #[.int .i64 t255, .int .i64 t256, .slice Ao119 t257.length co119, .int .i64 t260], .agg #[.int .i64 t270, .int .i64 t271, .slice Ao132 t272.length co132, .int .i64 t275]] (by rfl) rfl rfl Kit.am ?_
            with_reducible refine (laws_eqShard.calls k t255 t256 _ _ t257 t260 t270 t271 _ _ t272 t275 true _ ?side1 ?side2 ?side3 ?side4 A57.out).mono ?_
            (case side1 => exact Kit.cx ((Kd.S_reads' HO259.out).2.2))
            (case side2 => exact (Kd.S_reads' HO259.out).2.1)
            (case side3 => exact Kit.cx ((Kd.S_reads' HO274.out).2.2))
            (case side4 => exact (Kd.S_reads' HO274.out).2.1)
            rintro e w133 ⟨rfl, hb⟩
            refine ⟨_, rfl, ?_⟩
            replace HO246 := Aside0.mk (Kd.S_below (Kit.sx HO246.out) hb)
            replace HO252 := Aside0.mk (Kd.S_below (Kit.sx HO252.out) hb)
            replace HO259 := Aside0.mk (Kd.S_below (Kit.sx HO259.out) hb)
            replace HO266 := Aside0.mk (Kd.S_below (Kit.sx HO266.out) hb)
            replace HO274 := Aside0.mk (Kd.S_below (Kit.sx HO274.out) hb)
            replace BK238 := Aside0.mk (Kit.bb BK238.out hb)
            replace BK239 := Aside0.mk (Kit.bb BK239.out hb)
            replace BK261 := Aside0.mk (Kit.bb BK261.out hb)
            replace BK268 := Aside0.mk (Kit.bb BK268.out hb)
            replace HB := Aside0.mk (below_step Kit.bl hb)
            (try clear hb)
            (try clear hb2)
            (try clear hk)
            (try clear hi)
            refine hK.out _ _ ⟨(blk_cell BK261.out 0).trans rfl, (blk_cell BK261.out 1).trans rfl, (blk_cell BK261.out 2).trans rfl, (blk_cell BK261.out 3).trans rfl, (blk_cell BK238.out 0).trans rfl, (blk_cell BK238.out 1).trans rfl, (blk_cell BK238.out 2).trans rfl, (blk_cell BK238.out 3).trans rfl⟩ (fun hHeld => ?_)
            clear hK K
            refine norm_ (a' := ?_) ?_ ?_
            rotate_left
            · show Act.put _ (some 38) _ = _
              simp only [Act.put, List.setIfInBounds_toArray, List.set_cons_zero, List.set_cons_succ, i64_w, i32_w]
              rfl
            refine pure_ (i := 4) (N := some 39) (v := ?_) (a' := ?_) #[true, true, true, true, true] rfl rfl (by kernel_rfl) (fun _ _ _ h => h) (Or.inl ⟨by rfl, ?_⟩) ?_ ?_
            rotate_left
            · intro w'
              go_simp
              with_reducible rfl
            rotate_left
            · simp only [Act.put, List.setIfInBounds_toArray, List.set_cons_zero, List.set_cons_succ, i64_w, i32_w]
              rfl
            refine done_ (by kernel_rfl) ?_
            try go_wp2
            replace HO246 := Aside0.mk (Kd.S_drew HO246.out)
            replace HO252 := Aside0.mk (Kd.S_drew HO252.out)
            replace HO259 := Aside0.mk (Kd.S_drew HO259.out)
            replace HO266 := Aside0.mk (Kd.S_drew HO266.out)
            replace HO274 := Aside0.mk (Kd.S_drew HO274.out)
            replace BK238 := Aside0.mk (blk_drew BK238.out)
            replace BK239 := Aside0.mk (blk_drew BK239.out)
            replace BK261 := Aside0.mk (blk_drew BK261.out)
            replace BK268 := Aside0.mk (blk_drew BK268.out)
            replace HB := Aside0.mk (below_drew1 HB.out)
            refine start_ (n := 5) (S := fun w' => w'.cell? ⟨gb268, 0, none⟩ = some (.int .i64 t262) ∧ w'.cell? ⟨gb268, 1, none⟩ = some (.int .i64 t263) ∧ w'.cell? ⟨gb268, 2, none⟩ = some (.slice Ao127 t264.length co127) ∧ w'.cell? ⟨gb268, 3, none⟩ = some (.int .i64 t267) ∧ w'.cell? ⟨gb239, 0, none⟩ = some (.int .i64 a1_0) ∧ w'.cell? ⟨gb239, 1, none⟩ = some (.int .i64 a1_1) ∧ w'.cell? ⟨gb239, 2, none⟩ = some (.slice A1_2 l1_2.length c1_2) ∧ w'.cell? ⟨gb239, 3, none⟩ = some (.int .i64 a1_3)) (ds := []) #[false, false, false, false, false] (by kernel_rfl) rfl rfl ⟨(blk_cell BK268.out 0).trans rfl, (blk_cell BK268.out 1).trans rfl, (blk_cell BK268.out 2).trans rfl, (blk_cell BK268.out 3).trans rfl, (blk_cell BK239.out 0).trans rfl, (blk_cell BK239.out 1).trans rfl, (blk_cell BK239.out 2).trans rfl, (blk_cell BK239.out 3).trans rfl⟩ (fun hHeld => ?_)
            generalize w133.drew = w134 at HO246 HO252 HO259 HO266 HO274 BK238 BK239 BK261 BK268 HB hHeld ⊢
            refine take_ (i := 0) (N := some 40) (v := ?_) (a' := ?_) #[true, false, false, false, false] rfl rfl (by kernel_rfl) (fun _ _ _ h => h) (Or.inl ⟨by rfl, ?_⟩) hHeld ?_ ?_
            rotate_left
            · rintro w' ⟨s0, s1, s2, s3, s4, s5, s6, s7⟩
              go_simp
              with_reducible rfl
            rotate_left
            · simp only [Act.put, List.setIfInBounds_toArray, List.set_cons_zero, List.set_cons_succ, i64_w, i32_w]
              rfl
            refine take_ (i := 1) (N := some 41) (v := ?_) (a' := ?_) #[true, true, false, false, false] rfl rfl (by kernel_rfl) (fun _ _ _ h => h) (Or.inl ⟨by rfl, ?_⟩) hHeld ?_ ?_
            rotate_left
            · rintro w' ⟨s0, s1, s2, s3, s4, s5, s6, s7⟩
              go_simp
              with_reducible rfl
            rotate_left
            · simp only [Act.put, List.setIfInBounds_toArray, List.set_cons_zero, List.set_cons_succ, i64_w, i32_w]
              rfl
            refine one_ (i := 2) (N := some 42) #[true, true, true, false, false] rfl rfl (by kernel_rfl) (by decide) (fun K hK => ?_)
            refine goes_ Try.func44 (by kernel_rfl) rfl #[.agg #[.int .i64 a1_0, .int .i64 a1_1, .slice A1_2 l1_2.length c1_2, .int .i64 a1_3]] (by rfl) rfl rfl Kit.am ?_
            with_reducible refine (laws_toShard.calls k a1_0 a1_1 _ _ l1_2 a1_3 t277 t278 t279 t282 _ ?side1 ?side2 A59.out).mono ?_
            (case side1 => exact Kit.cx ((Kd.C_below HR1_2.out HB.out)))
            (case side2 => exact HC1_2.out)
            rintro e w135 ⟨v280, rfl, ho0, hb⟩
            refine ⟨_, rfl, ?_⟩
            have HO281 := Aside0.mk (Kd.S_lower (Kd.S_new' (Kd.S_new' (Kd.S_new' (Kd.S_new' (Kd.S_new' ho0 (Kd.S_lt (Kit.sx HO246.out))) (Kd.S_lt (Kit.sx HO252.out))) (Kd.S_lt (Kit.sx HO259.out))) (Kd.S_lt (Kit.sx HO266.out))) (Kd.S_lt (Kit.sx HO274.out))) Kit.bz)
            replace HO246 := Aside0.mk (Kd.S_elder' (Kit.sx HO246.out) (Kd.S_base ho0) hb)
            replace HO252 := Aside0.mk (Kd.S_elder' (Kit.sx HO252.out) (Kd.S_base ho0) hb)
            replace HO259 := Aside0.mk (Kd.S_elder' (Kit.sx HO259.out) (Kd.S_base ho0) hb)
            replace HO266 := Aside0.mk (Kd.S_elder' (Kit.sx HO266.out) (Kd.S_base ho0) hb)
            replace HO274 := Aside0.mk (Kd.S_elder' (Kit.sx HO274.out) (Kd.S_base ho0) hb)
            replace BK238 := Aside0.mk (Kit.bb BK238.out hb)
            replace BK239 := Aside0.mk (Kit.bb BK239.out hb)
            replace BK261 := Aside0.mk (Kit.bb BK261.out hb)
            replace BK268 := Aside0.mk (Kit.bb BK268.out hb)
            replace HB := Aside0.mk (below_step Kit.bl hb)
            (try clear hb)
            (try clear hb2)
            (try clear hk)
            (try clear hi)
            (try clear ho0)
            obtain ⟨Ao136, co136, eo136⟩ := Kd.S_slice HO281.out
            (first | subst eo136 | (injection eo136 with f1_ f2_ f3_; have f4_ := f1_.symm; have f5_ := f3_.symm; clear f1_ f2_ f3_; subst f4_; subst f5_))
            refine hK.out _ _ ⟨(blk_cell BK268.out 0).trans rfl, (blk_cell BK268.out 1).trans rfl, (blk_cell BK268.out 2).trans rfl, (blk_cell BK268.out 3).trans rfl, (blk_cell BK239.out 0).trans rfl, (blk_cell BK239.out 1).trans rfl, (blk_cell BK239.out 2).trans rfl, (blk_cell BK239.out 3).trans rfl⟩ (fun hHeld => ?_)
            clear hK K
            refine norm_ (a' := ?_) ?_ ?_
            rotate_left
            · show Act.put _ (some 42) _ = _
              simp only [Act.put, List.setIfInBounds_toArray, List.set_cons_zero, List.set_cons_succ, i64_w, i32_w]
              rfl
            refine one_ (i := 3) (N := some 43) #[true, true, true, true, false] rfl rfl (by kernel_rfl) (by decide) (fun K hK => ?_)
            refine goes_ Try.func37 (by kernel_rfl) rfl #[.agg #[.int .i64 t262, .int .i64 t263, .slice Ao127 t264.length co127, .int .i64 t267], .agg #[.int .i64 t277, .int .i64 t278, .slice Ao136 t279.length co136, .int .i64 t282]] (by rfl) rfl rfl Kit.am ?_
            with_reducible refine (laws_eqShard.calls k t262 t263 _ _ t264 t267 t277 t278 _ _ t279 t282 false _ ?side1 ?side2 ?side3 ?side4 A60.out).mono ?_
            (case side1 => exact Kit.cx ((Kd.S_reads' HO266.out).2.2))
            (case side2 => exact (Kd.S_reads' HO266.out).2.1)
            (case side3 => exact Kit.cx ((Kd.S_reads' HO281.out).2.2))
            (case side4 => exact (Kd.S_reads' HO281.out).2.1)
            rintro e w137 ⟨rfl, hb⟩
            refine ⟨_, rfl, ?_⟩
            replace HO246 := Aside0.mk (Kd.S_below (Kit.sx HO246.out) hb)
            replace HO252 := Aside0.mk (Kd.S_below (Kit.sx HO252.out) hb)
            replace HO259 := Aside0.mk (Kd.S_below (Kit.sx HO259.out) hb)
            replace HO266 := Aside0.mk (Kd.S_below (Kit.sx HO266.out) hb)
            replace HO274 := Aside0.mk (Kd.S_below (Kit.sx HO274.out) hb)
            replace HO281 := Aside0.mk (Kd.S_below (Kit.sx HO281.out) hb)
            replace BK238 := Aside0.mk (Kit.bb BK238.out hb)
            replace BK239 := Aside0.mk (Kit.bb BK239.out hb)
            replace BK261 := Aside0.mk (Kit.bb BK261.out hb)
            replace BK268 := Aside0.mk (Kit.bb BK268.out hb)
            replace HB := Aside0.mk (below_step Kit.bl hb)
            (try clear hb)
            (try clear hb2)
            (try clear hk)
            (try clear hi)
            refine hK.out _ _ ⟨(blk_cell BK268.out 0).trans rfl, (blk_cell BK268.out 1).trans rfl, (blk_cell BK268.out 2).trans rfl, (blk_cell BK268.out 3).trans rfl, (blk_cell BK239.out 0).trans rfl, (blk_cell BK239.out 1).trans rfl, (blk_cell BK239.out 2).trans rfl, (blk_cell BK239.out 3).trans rfl⟩ (fun hHeld => ?_)
            clear hK K
            refine norm_ (a' := ?_) ?_ ?_
            rotate_left
            · show Act.put _ (some 43) _ = _
              simp only [Act.put, List.setIfInBounds_toArray, List.set_cons_zero, List.set_cons_succ, i64_w, i32_w]
              rfl
            refine pure_ (i := 4) (N := some 44) (v := ?_) (a' := ?_) #[true, true, true, true, true] rfl rfl (by kernel_rfl) (fun _ _ _ h => h) (Or.inl ⟨by rfl, ?_⟩) ?_ ?_
            rotate_left
            · intro w'
              go_simp
              with_reducible rfl
            rotate_left
            · simp only [Act.put, List.setIfInBounds_toArray, List.set_cons_zero, List.set_cons_succ, i64_w, i32_w]
              rfl
            refine done_ (by kernel_rfl) ?_
            try go_wp2
            go_ret
            exact ⟨Kit.er, Kit.bl⟩
        · replace c58 := Bool.eq_false_iff.mpr c58
          subst c58
          have H1 : (some false) = some r := by rw [if_neg (show ¬ (false = true) by decide)] at H; exact H
          clear H
          have H := H1
          clear H1
          obtain rfl := Option.some.inj H
          go_enter Try.func12, Try.ntmps12
          try go_wp2_with (first | ((with_reducible refine gate_dst (N := 2) rfl ?_); refine box_event ?hg (N := 2) ?hd (cs := #[.int .i64 a0_0, .int .i64 a0_1, .slice A0_2 l0_2.length c0_2, .int .i64 a0_3]) (t := 59) ?hr ?_; (case hd => rfl); (case hg => rfl); (case hr => exact Kit.hr); intro gb238 hg w138 hbox hb; have BK238 := Aside0.mk (hbox); have GW238 := Aside0.mk (Kit.gx (w := w) hg); have GE238 := Aside0.mk (Kit.gx (w := w) hg); replace HB := Aside0.mk (below_step Kit.bl hb); clear hb hbox hg) | ((with_reducible refine gate_dst (N := 3) rfl ?_); refine box_event ?hg (N := 3) ?hd (cs := #[.int .i64 a1_0, .int .i64 a1_1, .slice A1_2 l1_2.length c1_2, .int .i64 a1_3]) (t := 59) ?hr ?_; (case hd => rfl); (case hg => rfl); (case hr => exact Kit.hr); intro gb239 hg w139 hbox hb; have BK239 := Aside0.mk (hbox); have GW239 := Aside0.mk (Kit.gx (w := w) hg); have GE239 := Aside0.mk (Kit.gx (w := w) hg); replace HB := Aside0.mk (below_step Kit.bl hb); have NB238_239 := Aside0.mk (Kit.nlt hg BK238.out); have NB239_238 := Aside0.mk (Kit.ngt hg BK238.out); replace BK238 := Aside0.mk (Kit.bb BK238.out hb); clear hb hbox hg; have hnb140 := NB238_239.out; have hnc140 := NB239_238.out; obtain ⟨hcz141_0, hcz141_1, hcz141_2, hcz141_3, hfz141_0, hfz141_1, hfz141_2, hfz141_3⟩ := Kit.c4 BK238.out) | ((with_reducible refine gate_callee (f := 42) rfl ?_); refine goesL_ (some 12) rfl rfl Try.func42 (by kernel_rfl) rfl #[.agg #[.int .i64 a0_0, .int .i64 a0_1, .slice A0_2 l0_2.length c0_2, .int .i64 a0_3], .int .i64 1048576] rfl Kit.am ?_; (with_reducible refine (laws_szShard.calls k a0_0 a0_1 _ _ l0_2 a0_3 1048576 t240 _ ?side1 ?side2 A3.out).mono ?_); (case side1 => exact Kit.cx ((Kd.C_below HR0_2.out HB.out))); (case side2 => exact HC0_2.out); rintro e w142 ⟨rfl, hb⟩; refine ⟨_, rfl, ?_⟩; replace BK238 := Aside0.mk (Kit.bb BK238.out hb); replace BK239 := Aside0.mk (Kit.bb BK239.out hb); replace HB := Aside0.mk (below_step Kit.bl hb); (try clear hb); (try clear hb2); (try clear hk); (try clear hi); obtain ⟨hcz143_0, hcz143_1, hcz143_2, hcz143_3, hfz143_0, hfz143_1, hfz143_2, hfz143_3⟩ := Kit.c4 BK239.out) | ((with_reducible refine gate_callee (f := 42) rfl ?_); refine goesL_ (some 17) rfl rfl Try.func42 (by kernel_rfl) rfl #[.agg #[.int .i64 a1_0, .int .i64 a1_1, .slice A1_2 l1_2.length c1_2, .int .i64 a1_3], .int .i64 t240] rfl Kit.am ?_; (with_reducible refine (laws_szShard.calls k a1_0 a1_1 _ _ l1_2 a1_3 t240 t241 _ ?side1 ?side2 A10.out).mono ?_); (case side1 => exact Kit.cx ((Kd.C_below HR1_2.out HB.out))); (case side2 => exact HC1_2.out); rintro e w144 ⟨rfl, hb⟩; refine ⟨_, rfl, ?_⟩; replace BK238 := Aside0.mk (Kit.bb BK238.out hb); replace BK239 := Aside0.mk (Kit.bb BK239.out hb); replace HB := Aside0.mk (below_step Kit.bl hb); (try clear hb); (try clear hb2); (try clear hk); (try clear hi)))
          replace BK238 := Aside0.mk (blk_drew BK238.out)
          replace BK239 := Aside0.mk (blk_drew BK239.out)
          replace HB := Aside0.mk (below_drew1 HB.out)
          refine start_ (n := 6) (S := fun w' => w'.cell? ⟨gb238, 0, none⟩ = some (.int .i64 a0_0) ∧ w'.cell? ⟨gb238, 1, none⟩ = some (.int .i64 a0_1) ∧ w'.cell? ⟨gb238, 2, none⟩ = some (.slice A0_2 l0_2.length c0_2) ∧ w'.cell? ⟨gb238, 3, none⟩ = some (.int .i64 a0_3) ∧ w'.cell? ⟨gb239, 0, none⟩ = some (.int .i64 a1_0) ∧ w'.cell? ⟨gb239, 1, none⟩ = some (.int .i64 a1_1) ∧ w'.cell? ⟨gb239, 2, none⟩ = some (.slice A1_2 l1_2.length c1_2) ∧ w'.cell? ⟨gb239, 3, none⟩ = some (.int .i64 a1_3)) (ds := []) #[false, false, false, false, false, false] (by kernel_rfl) rfl rfl ⟨(blk_cell BK238.out 0).trans rfl, (blk_cell BK238.out 1).trans rfl, (blk_cell BK238.out 2).trans rfl, (blk_cell BK238.out 3).trans rfl, (blk_cell BK239.out 0).trans rfl, (blk_cell BK239.out 1).trans rfl, (blk_cell BK239.out 2).trans rfl, (blk_cell BK239.out 3).trans rfl⟩ (fun hHeld => ?_)
          generalize w144.drew = w145 at BK238 BK239 HB hHeld ⊢
          refine take_ (i := 0) (N := some 20) (v := ?_) (a' := ?_) #[true, false, false, false, false, false] rfl rfl (by kernel_rfl) (fun _ _ _ h => h) (Or.inl ⟨by rfl, ?_⟩) hHeld ?_ ?_
          rotate_left
          · rintro w' ⟨s0, s1, s2, s3, s4, s5, s6, s7⟩
            go_simp
            with_reducible rfl
          rotate_left
          · simp only [Act.put, List.setIfInBounds_toArray, List.set_cons_zero, List.set_cons_succ, i64_w, i32_w]
            rfl
          refine take_ (i := 2) (N := some 22) (v := ?_) (a' := ?_) #[true, false, true, false, false, false] rfl rfl (by kernel_rfl) (fun _ _ _ h => h) (Or.inl ⟨by rfl, ?_⟩) hHeld ?_ ?_
          rotate_left
          · rintro w' ⟨s0, s1, s2, s3, s4, s5, s6, s7⟩
            go_simp
            with_reducible rfl
          rotate_left
          · simp only [Act.put, List.setIfInBounds_toArray, List.set_cons_zero, List.set_cons_succ, i64_w, i32_w]
            rfl
          refine one_ (i := 1) (N := some 21) #[true, true, true, false, false, false] rfl rfl (by kernel_rfl) (by decide) (fun K hK => ?_)
          refine goes_ Try.func44 (by kernel_rfl) rfl #[.agg #[.int .i64 a0_0, .int .i64 a0_1, .slice A0_2 l0_2.length c0_2, .int .i64 a0_3]] (by rfl) rfl rfl Kit.am ?_
          with_reducible refine (laws_toShard.calls k a0_0 a0_1 _ _ l0_2 a0_3 t242 t243 t244 t247 _ ?side1 ?side2 A19.out).mono ?_
          (case side1 => exact Kit.cx ((Kd.C_below HR0_2.out HB.out)))
          (case side2 => exact HC0_2.out)
          rintro e w146 ⟨v245, rfl, ho0, hb⟩
          refine ⟨_, rfl, ?_⟩
          have HO246 := Aside0.mk (Kd.S_lower ho0 Kit.bz)
          replace BK238 := Aside0.mk (Kit.bb BK238.out hb)
          replace BK239 := Aside0.mk (Kit.bb BK239.out hb)
          replace HB := Aside0.mk (below_step Kit.bl hb)
          (try clear hb)
          (try clear hb2)
          (try clear hk)
          (try clear hi)
          (try clear ho0)
          refine hK.out _ _ ⟨(blk_cell BK238.out 0).trans rfl, (blk_cell BK238.out 1).trans rfl, (blk_cell BK238.out 2).trans rfl, (blk_cell BK238.out 3).trans rfl, (blk_cell BK239.out 0).trans rfl, (blk_cell BK239.out 1).trans rfl, (blk_cell BK239.out 2).trans rfl, (blk_cell BK239.out 3).trans rfl⟩ (fun hHeld => ?_)
          clear hK K
          refine norm_ (a' := ?_) ?_ ?_
          rotate_left
          · show Act.put _ (some 21) _ = _
            simp only [Act.put, List.setIfInBounds_toArray, List.set_cons_zero, List.set_cons_succ, i64_w, i32_w]
            rfl
          refine one_ (i := 3) (N := some 23) #[true, true, true, true, false, false] rfl rfl (by kernel_rfl) (by decide) (fun K hK => ?_)
          refine goes_ Try.func44 (by kernel_rfl) rfl #[.agg #[.int .i64 a1_0, .int .i64 a1_1, .slice A1_2 l1_2.length c1_2, .int .i64 a1_3]] (by rfl) rfl rfl Kit.am ?_
          with_reducible refine (laws_toShard.calls k a1_0 a1_1 _ _ l1_2 a1_3 t248 t249 t250 t253 _ ?side1 ?side2 A20.out).mono ?_
          (case side1 => exact Kit.cx ((Kd.C_below HR1_2.out HB.out)))
          (case side2 => exact HC1_2.out)
          rintro e w147 ⟨v251, rfl, ho0, hb⟩
          refine ⟨_, rfl, ?_⟩
          have HO252 := Aside0.mk (Kd.S_lower (Kd.S_new' ho0 (Kd.S_lt (Kit.sx HO246.out))) Kit.bz)
          replace HO246 := Aside0.mk (Kd.S_elder' (Kit.sx HO246.out) (Kd.S_base ho0) hb)
          replace BK238 := Aside0.mk (Kit.bb BK238.out hb)
          replace BK239 := Aside0.mk (Kit.bb BK239.out hb)
          replace HB := Aside0.mk (below_step Kit.bl hb)
          (try clear hb)
          (try clear hb2)
          (try clear hk)
          (try clear hi)
          (try clear ho0)
          obtain ⟨Ao148, co148, eo148⟩ := Kd.S_slice HO246.out
          (first | subst eo148 | (injection eo148 with f1_ f2_ f3_; have f4_ := f1_.symm; have f5_ := f3_.symm; clear f1_ f2_ f3_; subst f4_; subst f5_))
          obtain ⟨Ao149, co149, eo149⟩ := Kd.S_slice HO252.out
          (first | subst eo149 | (injection eo149 with f1_ f2_ f3_; have f4_ := f1_.symm; have f5_ := f3_.symm; clear f1_ f2_ f3_; subst f4_; subst f5_))
          refine hK.out _ _ ⟨(blk_cell BK238.out 0).trans rfl, (blk_cell BK238.out 1).trans rfl, (blk_cell BK238.out 2).trans rfl, (blk_cell BK238.out 3).trans rfl, (blk_cell BK239.out 0).trans rfl, (blk_cell BK239.out 1).trans rfl, (blk_cell BK239.out 2).trans rfl, (blk_cell BK239.out 3).trans rfl⟩ (fun hHeld => ?_)
          clear hK K
          refine norm_ (a' := ?_) ?_ ?_
          rotate_left
          · show Act.put _ (some 23) _ = _
            simp only [Act.put, List.setIfInBounds_toArray, List.set_cons_zero, List.set_cons_succ, i64_w, i32_w]
            rfl
          refine one_ (i := 4) (N := some 24) #[true, true, true, true, true, false] rfl rfl (by kernel_rfl) (by decide) (fun K hK => ?_)
          refine goes_ Try.func43 (by kernel_rfl) rfl #[.agg #[.int .i64 t242, .int .i64 t243, .slice Ao148 t244.length co148, .int .i64 t247], .agg #[.int .i64 t248, .int .i64 t249, .slice Ao149 t250.length co149, .int .i64 t253]] (by rfl) rfl rfl Kit.am ?_
          with_reducible refine (spec_SameShard.calls k t242 t243 _ _ t244 t247 t248 t249 _ _ t250 t253 t254 _ ?side1 ?side2 ?side3 ?side4 A21.out).mono ?_
          (case side1 => exact Kit.cx ((Kd.S_reads' HO246.out).2.2))
          (case side2 => exact (Kd.S_reads' HO246.out).2.1)
          (case side3 => exact Kit.cx ((Kd.S_reads' HO252.out).2.2))
          (case side4 => exact (Kd.S_reads' HO252.out).2.1)
          rintro e w150 ⟨rfl, hb⟩
          refine ⟨_, rfl, ?_⟩
          replace HO246 := Aside0.mk (Kd.S_below (Kit.sx HO246.out) hb)
          replace HO252 := Aside0.mk (Kd.S_below (Kit.sx HO252.out) hb)
          replace BK238 := Aside0.mk (Kit.bb BK238.out hb)
          replace BK239 := Aside0.mk (Kit.bb BK239.out hb)
          replace HB := Aside0.mk (below_step Kit.bl hb)
          (try clear hb)
          (try clear hb2)
          (try clear hk)
          (try clear hi)
          refine hK.out _ _ ⟨(blk_cell BK238.out 0).trans rfl, (blk_cell BK238.out 1).trans rfl, (blk_cell BK238.out 2).trans rfl, (blk_cell BK238.out 3).trans rfl, (blk_cell BK239.out 0).trans rfl, (blk_cell BK239.out 1).trans rfl, (blk_cell BK239.out 2).trans rfl, (blk_cell BK239.out 3).trans rfl⟩ (fun hHeld => ?_)
          clear hK K
          refine norm_ (a' := ?_) ?_ ?_
          rotate_left
          · show Act.put _ (some 24) _ = _
            simp only [Act.put, List.setIfInBounds_toArray, List.set_cons_zero, List.set_cons_succ, i64_w, i32_w]
            rfl
          refine pure_ (i := 5) (N := some 6) (v := ?_) (a' := ?_) #[true, true, true, true, true, true] rfl rfl (by kernel_rfl) (fun _ _ _ h => h) (Or.inl ⟨by rfl, ?_⟩) ?_ ?_
          rotate_left
          · intro w'
            go_simp
            with_reducible rfl
          rotate_left
          · simp only [Act.put, List.setIfInBounds_toArray, List.set_cons_zero, List.set_cons_succ, i64_w, i32_w]
            rfl
          refine done_ (by kernel_rfl) ?_
          obtain ⟨hcz151_0, hcz151_1, hcz151_2, hcz151_3, hfz151_0, hfz151_1, hfz151_2, hfz151_3⟩ := Kit.c4 BK238.out
          try go_wp2_with (first | ((with_reducible refine gate_callee (f := 44) rfl ?_); refine goesL_ (some 26) rfl rfl Try.func44 (by kernel_rfl) rfl #[.agg #[.int .i64 a0_0, .int .i64 a0_1, .slice A0_2 l0_2.length c0_2, .int .i64 a0_3]] rfl Kit.am ?_; (with_reducible refine (laws_toShard.calls k a0_0 a0_1 _ _ l0_2 a0_3 t255 t256 t257 t260 _ ?side1 ?side2 A22.out).mono ?_); (case side1 => exact Kit.cx ((Kd.C_below HR0_2.out HB.out))); (case side2 => exact HC0_2.out); rintro e w152 ⟨v258, rfl, ho0, hb⟩; refine ⟨_, rfl, ?_⟩; have one_v258 : (v258 : Value).oneCell' = true := Kit.ov0; have HO259 := Aside0.mk (Kd.S_lower (Kd.S_new' (Kd.S_new' ho0 (Kd.S_lt (Kit.sx HO246.out))) (Kd.S_lt (Kit.sx HO252.out))) Kit.bz); replace HO246 := Aside0.mk (Kd.S_elder' (Kit.sx HO246.out) (Kd.S_base ho0) hb); replace HO252 := Aside0.mk (Kd.S_elder' (Kit.sx HO252.out) (Kd.S_base ho0) hb); replace BK238 := Aside0.mk (Kit.bb BK238.out hb); replace BK239 := Aside0.mk (Kit.bb BK239.out hb); replace HB := Aside0.mk (below_step Kit.bl hb); (try clear hb); (try clear hb2); (try clear hk); (try clear hi); (try clear ho0)) | ((with_reducible refine gate_dst (N := 7) rfl ?_); refine box_event ?hg (N := 7) ?hd (cs := #[.int .i64 0, .int .i64 0, .slice none 0 0, .int .i64 0]) (t := 51) ?hr ?_; (case hd => rfl); (case hg => rfl); (case hr => exact Kit.hr); intro gb261 hg w153 hbox hb; replace HO246 := Aside0.mk (Kd.S_below (Kit.sx HO246.out) hb); replace HO252 := Aside0.mk (Kd.S_below (Kit.sx HO252.out) hb); replace HO259 := Aside0.mk (Kd.S_below (Kit.sx HO259.out) hb); have BK261 := Aside0.mk (hbox); have GW261 := Aside0.mk (Kit.gx (w := w) hg); have GE261 := Aside0.mk (Kit.gx (w := w) hg); replace HB := Aside0.mk (below_step Kit.bl hb); have NB238_261 := Aside0.mk (Kit.nlt hg BK238.out); have NB261_238 := Aside0.mk (Kit.ngt hg BK238.out); replace BK238 := Aside0.mk (Kit.bb BK238.out hb); have NB239_261 := Aside0.mk (Kit.nlt hg BK239.out); have NB261_239 := Aside0.mk (Kit.ngt hg BK239.out); replace BK239 := Aside0.mk (Kit.bb BK239.out hb); clear hb hbox hg; have hnb154 := NB261_238.out; have hnc154 := NB238_261.out; have hnb155 := NB261_239.out; have hnc155 := NB239_261.out; obtain ⟨hcz156_0, hcz156_1, hcz156_2, hcz156_3, hfz156_0, hfz156_1, hfz156_2, hfz156_3⟩ := Kit.c4 BK261.out; obtain ⟨Ao157, co157, eo157⟩ := Kd.S_slice HO259.out; subst eo157; obtain ⟨hcz158_0, hcz158_1, hcz158_2, hcz158_3, hfz158_0, hfz158_1, hfz158_2, hfz158_3⟩ := Kit.c4 BK239.out) | ((with_reducible refine gate_callee (f := 44) rfl ?_); refine goesL_ (some 28) rfl rfl Try.func44 (by kernel_rfl) rfl #[.agg #[.int .i64 a1_0, .int .i64 a1_1, .slice A1_2 l1_2.length c1_2, .int .i64 a1_3]] rfl Kit.am ?_; (with_reducible refine (laws_toShard.calls k a1_0 a1_1 _ _ l1_2 a1_3 t262 t263 t264 t267 _ ?side1 ?side2 A23.out).mono ?_); (case side1 => exact Kd.C_below HR1_2.out Kit.bl); (case side2 => exact HC1_2.out); rintro e w159 ⟨v265, rfl, ho0, hb⟩; refine ⟨_, rfl, ?_⟩; have one_v265 : (v265 : Value).oneCell' = true := Kit.ov0; have n0_ := Aside0.mk (Kd.S_elder' (by (with_reducible repeat (first | apply Kd.S_alloc | apply Kd.S_drewN | apply Kd.S_drew)); exact (Kd.S_mono (Kd.S_far (p := ⟨gb261, 3, none⟩) (Kd.S_far (p := ⟨gb261, 2, none⟩) (Kd.S_far (p := ⟨gb261, 1, none⟩) (Kd.S_far (p := ⟨gb261, 0, none⟩) (Kd.S_types HO246.out BK261.out (by decide)) (fun _ hk => hk.2) (.int .i64 t255)) (fun _ hk => hk.2) (.int .i64 t256)) (fun _ hk => hk.2) (.slice Ao157 t257.length co157)) (fun _ hk => hk.2) (.int .i64 t260)) (fun _ h_ => h_.1))) (Kd.S_base ho0) hb); have n1_ := Aside0.mk (Kd.S_elder' (by (with_reducible repeat (first | apply Kd.S_alloc | apply Kd.S_drewN | apply Kd.S_drew)); exact (Kd.S_mono (Kd.S_far (p := ⟨gb261, 3, none⟩) (Kd.S_far (p := ⟨gb261, 2, none⟩) (Kd.S_far (p := ⟨gb261, 1, none⟩) (Kd.S_far (p := ⟨gb261, 0, none⟩) (Kd.S_types HO252.out BK261.out (by decide)) (fun _ hk => hk.2) (.int .i64 t255)) (fun _ hk => hk.2) (.int .i64 t256)) (fun _ hk => hk.2) (.slice Ao157 t257.length co157)) (fun _ hk => hk.2) (.int .i64 t260)) (fun _ h_ => h_.1))) (Kd.S_base ho0) hb); have n2_ := Aside0.mk (Kd.S_elder' (by (with_reducible repeat (first | apply Kd.S_alloc | apply Kd.S_drewN | apply Kd.S_drew)); exact (Kd.S_mono (Kd.S_far (p := ⟨gb261, 3, none⟩) (Kd.S_far (p := ⟨gb261, 2, none⟩) (Kd.S_far (p := ⟨gb261, 1, none⟩) (Kd.S_far (p := ⟨gb261, 0, none⟩) (Kd.S_types HO259.out BK261.out (by decide)) (fun _ hk => hk.2) (.int .i64 t255)) (fun _ hk => hk.2) (.int .i64 t256)) (fun _ hk => hk.2) (.slice Ao157 t257.length co157)) (fun _ hk => hk.2) (.int .i64 t260)) (fun _ h_ => h_.1))) (Kd.S_base ho0) hb); have n3_ := Aside0.mk (Kd.S_lower (Kd.S_new' (Kd.S_new' (Kd.S_new' ho0 (Kd.S_lt (by (with_reducible repeat (first | apply Kd.S_alloc | apply Kd.S_drewN | apply Kd.S_drew)); exact (Kd.S_mono (Kd.S_far (p := ⟨gb261, 3, none⟩) (Kd.S_far (p := ⟨gb261, 2, none⟩) (Kd.S_far (p := ⟨gb261, 1, none⟩) (Kd.S_far (p := ⟨gb261, 0, none⟩) (Kd.S_types HO246.out BK261.out (by decide)) (fun _ hk => hk.2) (.int .i64 t255)) (fun _ hk => hk.2) (.int .i64 t256)) (fun _ hk => hk.2) (.slice Ao157 t257.length co157)) (fun _ hk => hk.2) (.int .i64 t260)) (fun _ h_ => h_.1))))) (Kd.S_lt (by (with_reducible repeat (first | apply Kd.S_alloc | apply Kd.S_drewN | apply Kd.S_drew)); exact (Kd.S_mono (Kd.S_far (p := ⟨gb261, 3, none⟩) (Kd.S_far (p := ⟨gb261, 2, none⟩) (Kd.S_far (p := ⟨gb261, 1, none⟩) (Kd.S_far (p := ⟨gb261, 0, none⟩) (Kd.S_types HO252.out BK261.out (by decide)) (fun _ hk => hk.2) (.int .i64 t255)) (fun _ hk => hk.2) (.int .i64 t256)) (fun _ hk => hk.2) (.slice Ao157 t257.length co157)) (fun _ hk => hk.2) (.int .i64 t260)) (fun _ h_ => h_.1))))) (Kd.S_lt (by (with_reducible repeat (first | apply Kd.S_alloc | apply Kd.S_drewN | apply Kd.S_drew)); exact (Kd.S_mono (Kd.S_far (p := ⟨gb261, 3, none⟩) (Kd.S_far (p := ⟨gb261, 2, none⟩) (Kd.S_far (p := ⟨gb261, 1, none⟩) (Kd.S_far (p := ⟨gb261, 0, none⟩) (Kd.S_types HO259.out BK261.out (by decide)) (fun _ hk => hk.2) (.int .i64 t255)) (fun _ hk => hk.2) (.int .i64 t256)) (fun _ hk => hk.2) (.slice Ao157 t257.length co157)) (fun _ hk => hk.2) (.int .i64 t260)) (fun _ h_ => h_.1))))) Kit.bz); have n4_ := Aside0.mk (Kit.bf BK238.out hb); have n5_ := Aside0.mk (Kit.bf BK239.out hb); have n6_ := Aside0.mk (blk_below (g := gb261) (o := .cells #[.int .i64 t255, .int .i64 t256, .slice Ao157 t257.length co157, .int .i64 t260] 51 (0, 0)) (by (with_reducible repeat (first | refine blk_drewN ?_ _ | refine blk_drew ?_ | refine blk_alloc ?_ _)); refine blk_put (cs := #[.int .i64 t255, .int .i64 t256, .slice Ao157 t257.length co157, .int .i64 0]) ?_ 3 _ rfl; (with_reducible repeat (first | refine blk_drewN ?_ _ | refine blk_drew ?_ | refine blk_alloc ?_ _)); refine blk_put (cs := #[.int .i64 t255, .int .i64 t256, .slice none 0 0, .int .i64 0]) ?_ 2 _ rfl; (with_reducible repeat (first | refine blk_drewN ?_ _ | refine blk_drew ?_ | refine blk_alloc ?_ _)); refine blk_put (cs := #[.int .i64 t255, .int .i64 0, .slice none 0 0, .int .i64 0]) ?_ 1 _ rfl; (with_reducible repeat (first | refine blk_drewN ?_ _ | refine blk_drew ?_ | refine blk_alloc ?_ _)); refine blk_put (cs := #[.int .i64 0, .int .i64 0, .slice none 0 0, .int .i64 0]) ?_ 0 _ rfl; (with_reducible repeat (first | refine blk_drewN ?_ _ | refine blk_drew ?_ | refine blk_alloc ?_ _)); exact BK261.out) hb); have n7_ := Aside0.mk (below_step Kit.bl hb); clear HO246; clear HO252; clear HO259; clear BK238; clear BK239; clear BK261; clear HB; have HO246 := n0_; have HO252 := n1_; have HO259 := n2_; have HO266 := n3_; have BK238 := n4_; have BK239 := n5_; have BK261 := n6_; have HB := n7_; clear n0_ n1_ n2_ n3_ n4_ n5_ n6_ n7_; (try clear hb); (try clear hb2); (try clear hk); (try clear hi); (try clear ho0)) | ((with_reducible refine gate_dst (N := 8) rfl ?_); refine box_event ?hg (N := 8) ?hd (cs := #[.int .i64 0, .int .i64 0, .slice none 0 0, .int .i64 0]) (t := 51) ?hr ?_; (case hd => rfl); (case hg => rfl); (case hr => exact Kit.hr); intro gb268 hg w160 hbox hb; replace HO246 := Aside0.mk (Kd.S_below (Kit.sx HO246.out) hb); replace HO252 := Aside0.mk (Kd.S_below (Kit.sx HO252.out) hb); replace HO259 := Aside0.mk (Kd.S_below (Kit.sx HO259.out) hb); replace HO266 := Aside0.mk (Kd.S_below (Kit.sx HO266.out) hb); have BK268 := Aside0.mk (hbox); have GW268 := Aside0.mk (Kit.gx (w := w) hg); have GE268 := Aside0.mk (Kit.gx (w := w) hg); replace HB := Aside0.mk (below_step Kit.bl hb); have NB238_268 := Aside0.mk (Kit.nlt hg BK238.out); have NB268_238 := Aside0.mk (Kit.ngt hg BK238.out); replace BK238 := Aside0.mk (Kit.bb BK238.out hb); have NB239_268 := Aside0.mk (Kit.nlt hg BK239.out); have NB268_239 := Aside0.mk (Kit.ngt hg BK239.out); replace BK239 := Aside0.mk (Kit.bb BK239.out hb); have NB261_268 := Aside0.mk (Kit.nlt hg BK261.out); have NB268_261 := Aside0.mk (Kit.ngt hg BK261.out); replace BK261 := Aside0.mk (Kit.bb BK261.out hb); clear hb hbox hg; have hnb161 := NB268_238.out; have hnc161 := NB238_268.out; have hnb162 := NB268_239.out; have hnc162 := NB239_268.out; have hnb163 := NB268_261.out; have hnc163 := NB261_268.out; obtain ⟨hcz164_0, hcz164_1, hcz164_2, hcz164_3, hfz164_0, hfz164_1, hfz164_2, hfz164_3⟩ := Kit.c4 BK268.out; obtain ⟨Ao165, co165, eo165⟩ := Kd.S_slice HO266.out; subst eo165; obtain ⟨hcz166_0, hcz166_1, hcz166_2, hcz166_3, hfz166_0, hfz166_1, hfz166_2, hfz166_3⟩ := Kit.c4 BK261.out) | ((with_reducible refine gate_callee (f := 45) rfl ?_); refine goesL_ (some 31) rfl rfl Try.func45 (by kernel_rfl) rfl #[.agg #[.int .i64 t255, .int .i64 t256, .slice Ao157 t257.length co157, .int .i64 t260], .agg #[.int .i64 t262, .int .i64 t263, .slice Ao165 t264.length co165, .int .i64 t267]] rfl Kit.am ?_; (with_reducible refine (impl_SameShard.calls k t255 t256 _ _ t257 t260 t262 t263 _ _ t264 t267 t269 _ ?side1 ?side2 ?side3 ?side4 A24.out).mono ?_); (case side1 => refine (Kd.S_reads' (e := 87) (base := w.heap.size) (ok := fun k_ => (((True ∧ some k_ ≠ (.slice Ao148 t244.length co148 : Value).ownBlock) ∧ some k_ ≠ (.slice Ao149 t250.length co149 : Value).ownBlock) ∧ some k_ ≠ (.slice Ao165 t264.length co165 : Value).ownBlock)) (n := t257.length) (c := co157) ?_).2.2; exact (by (with_reducible repeat (first | apply Kd.S_alloc | apply Kd.S_drewN | apply Kd.S_drew)); exact (Kd.S_mono (Kd.S_far (p := ⟨gb268, 3, none⟩) (Kd.S_far (p := ⟨gb268, 2, none⟩) (Kd.S_far (p := ⟨gb268, 1, none⟩) (Kd.S_far (p := ⟨gb268, 0, none⟩) (Kd.S_types HO259.out BK268.out (by decide)) (fun _ hk => hk.2) (.int .i64 t262)) (fun _ hk => hk.2) (.int .i64 t263)) (fun _ hk => hk.2) (.slice Ao165 t264.length co165)) (fun _ hk => hk.2) (.int .i64 t267)) (fun _ h_ => h_.1)))); (case side2 => exact (Kd.S_reads' HO259.out).2.1); (case side3 => refine (Kd.S_reads' (e := 87) (base := w.heap.size) (ok := fun k_ => (((True ∧ some k_ ≠ (.slice Ao148 t244.length co148 : Value).ownBlock) ∧ some k_ ≠ (.slice Ao149 t250.length co149 : Value).ownBlock) ∧ some k_ ≠ (.slice Ao157 t257.length co157 : Value).ownBlock)) (n := t264.length) (c := co165) ?_).2.2; exact (by (with_reducible repeat (first | apply Kd.S_alloc | apply Kd.S_drewN | apply Kd.S_drew)); exact (Kd.S_mono (Kd.S_far (p := ⟨gb268, 3, none⟩) (Kd.S_far (p := ⟨gb268, 2, none⟩) (Kd.S_far (p := ⟨gb268, 1, none⟩) (Kd.S_far (p := ⟨gb268, 0, none⟩) (Kd.S_types HO266.out BK268.out (by decide)) (fun _ hk => hk.2) (.int .i64 t262)) (fun _ hk => hk.2) (.int .i64 t263)) (fun _ hk => hk.2) (.slice Ao165 t264.length co165)) (fun _ hk => hk.2) (.int .i64 t267)) (fun _ h_ => h_.1)))); (case side4 => exact (Kd.S_reads' HO266.out).2.1); rintro e w167 ⟨rfl, hb⟩; refine ⟨_, rfl, ?_⟩; have n0_ := Aside0.mk (Kd.S_below (by (with_reducible repeat (first | apply Kd.S_alloc | apply Kd.S_drewN | apply Kd.S_drew)); exact (Kd.S_mono (Kd.S_far (p := ⟨gb268, 3, none⟩) (Kd.S_far (p := ⟨gb268, 2, none⟩) (Kd.S_far (p := ⟨gb268, 1, none⟩) (Kd.S_far (p := ⟨gb268, 0, none⟩) (Kd.S_types HO246.out BK268.out (by decide)) (fun _ hk => hk.2) (.int .i64 t262)) (fun _ hk => hk.2) (.int .i64 t263)) (fun _ hk => hk.2) (.slice Ao165 t264.length co165)) (fun _ hk => hk.2) (.int .i64 t267)) (fun _ h_ => h_.1))) hb); have n1_ := Aside0.mk (Kd.S_below (by (with_reducible repeat (first | apply Kd.S_alloc | apply Kd.S_drewN | apply Kd.S_drew)); exact (Kd.S_mono (Kd.S_far (p := ⟨gb268, 3, none⟩) (Kd.S_far (p := ⟨gb268, 2, none⟩) (Kd.S_far (p := ⟨gb268, 1, none⟩) (Kd.S_far (p := ⟨gb268, 0, none⟩) (Kd.S_types HO252.out BK268.out (by decide)) (fun _ hk => hk.2) (.int .i64 t262)) (fun _ hk => hk.2) (.int .i64 t263)) (fun _ hk => hk.2) (.slice Ao165 t264.length co165)) (fun _ hk => hk.2) (.int .i64 t267)) (fun _ h_ => h_.1))) hb); have n2_ := Aside0.mk (Kd.S_below (by (with_reducible repeat (first | apply Kd.S_alloc | apply Kd.S_drewN | apply Kd.S_drew)); exact (Kd.S_mono (Kd.S_far (p := ⟨gb268, 3, none⟩) (Kd.S_far (p := ⟨gb268, 2, none⟩) (Kd.S_far (p := ⟨gb268, 1, none⟩) (Kd.S_far (p := ⟨gb268, 0, none⟩) (Kd.S_types HO259.out BK268.out (by decide)) (fun _ hk => hk.2) (.int .i64 t262)) (fun _ hk => hk.2) (.int .i64 t263)) (fun _ hk => hk.2) (.slice Ao165 t264.length co165)) (fun _ hk => hk.2) (.int .i64 t267)) (fun _ h_ => h_.1))) hb); have n3_ := Aside0.mk (Kd.S_below (by (with_reducible repeat (first | apply Kd.S_alloc | apply Kd.S_drewN | apply Kd.S_drew)); exact (Kd.S_mono (Kd.S_far (p := ⟨gb268, 3, none⟩) (Kd.S_far (p := ⟨gb268, 2, none⟩) (Kd.S_far (p := ⟨gb268, 1, none⟩) (Kd.S_far (p := ⟨gb268, 0, none⟩) (Kd.S_types HO266.out BK268.out (by decide)) (fun _ hk => hk.2) (.int .i64 t262)) (fun _ hk => hk.2) (.int .i64 t263)) (fun _ hk => hk.2) (.slice Ao165 t264.length co165)) (fun _ hk => hk.2) (.int .i64 t267)) (fun _ h_ => h_.1))) hb); have n4_ := Aside0.mk (Kit.bf BK238.out hb); have n5_ := Aside0.mk (Kit.bf BK239.out hb); have n6_ := Aside0.mk (Kit.bf BK261.out hb); have n7_ := Aside0.mk (blk_below (g := gb268) (o := .cells #[.int .i64 t262, .int .i64 t263, .slice Ao165 t264.length co165, .int .i64 t267] 51 (0, 0)) (by (with_reducible repeat (first | refine blk_drewN ?_ _ | refine blk_drew ?_ | refine blk_alloc ?_ _)); refine blk_put (cs := #[.int .i64 t262, .int .i64 t263, .slice Ao165 t264.length co165, .int .i64 0]) ?_ 3 _ rfl; (with_reducible repeat (first | refine blk_drewN ?_ _ | refine blk_drew ?_ | refine blk_alloc ?_ _)); refine blk_put (cs := #[.int .i64 t262, .int .i64 t263, .slice none 0 0, .int .i64 0]) ?_ 2 _ rfl; (with_reducible repeat (first | refine blk_drewN ?_ _ | refine blk_drew ?_ | refine blk_alloc ?_ _)); refine blk_put (cs := #[.int .i64 t262, .int .i64 0, .slice none 0 0, .int .i64 0]) ?_ 1 _ rfl; (with_reducible repeat (first | refine blk_drewN ?_ _ | refine blk_drew ?_ | refine blk_alloc ?_ _)); refine blk_put (cs := #[.int .i64 0, .int .i64 0, .slice none 0 0, .int .i64 0]) ?_ 0 _ rfl; (with_reducible repeat (first | refine blk_drewN ?_ _ | refine blk_drew ?_ | refine blk_alloc ?_ _)); exact BK268.out) hb); have n8_ := Aside0.mk (below_step Kit.bl hb); clear HO246; clear HO252; clear HO259; clear HO266; clear BK238; clear BK239; clear BK261; clear BK268; clear HB; have HO246 := n0_; have HO252 := n1_; have HO259 := n2_; have HO266 := n3_; have BK238 := n4_; have BK239 := n5_; have BK261 := n6_; have BK268 := n7_; have HB := n8_; clear n0_ n1_ n2_ n3_ n4_ n5_ n6_ n7_ n8_; (try clear hb); (try clear hb2); (try clear hk); (try clear hi)))
          have n0_ := Aside0.mk (Kd.S_drew HO246.out)
          have n1_ := Aside0.mk (Kd.S_drew HO252.out)
          have n2_ := Aside0.mk (Kd.S_drew HO259.out)
          have n3_ := Aside0.mk (Kd.S_drew HO266.out)
          have n4_ := Aside0.mk (blk_drew BK238.out)
          have n5_ := Aside0.mk (blk_drew BK239.out)
          have n6_ := Aside0.mk (blk_drew BK261.out)
          have n7_ := Aside0.mk (blk_drew BK268.out)
          have n8_ := Aside0.mk (below_drew1 HB.out)
          clear HO246
          clear HO252
          clear HO259
          clear HO266
          clear BK238
          clear BK239
          clear BK261
          clear BK268
          clear HB
          have HO246 := n0_
          have HO252 := n1_
          have HO259 := n2_
          have HO266 := n3_
          have BK238 := n4_
          have BK239 := n5_
          have BK261 := n6_
          have BK268 := n7_
          have HB := n8_
          clear n0_ n1_ n2_ n3_ n4_ n5_ n6_ n7_ n8_
          refine start_ (n := 5) (S := fun w' => w'.cell? ⟨gb261, 0, none⟩ = some (.int .i64 t255) ∧ w'.cell? ⟨gb261, 1, none⟩ = some (.int .i64 t256) ∧ w'.cell? ⟨gb261, 2, none⟩ = some (.slice Ao157 t257.length co157) ∧ w'.cell? ⟨gb261, 3, none⟩ = some (.int .i64 t260) ∧ w'.cell? ⟨gb238, 0, none⟩ = some (.int .i64 a0_0) ∧ w'.cell? ⟨gb238, 1, none⟩ = some (.int .i64 a0_1) ∧ w'.cell? ⟨gb238, 2, none⟩ = some (.slice A0_2 l0_2.length c0_2) ∧ w'.cell? ⟨gb238, 3, none⟩ = some (.int .i64 a0_3)) (ds := []) #[false, false, false, false, false] (by kernel_rfl) rfl rfl ⟨(blk_cell BK261.out 0).trans rfl, (blk_cell BK261.out 1).trans rfl, (blk_cell BK261.out 2).trans rfl, (blk_cell BK261.out 3).trans rfl, (blk_cell BK238.out 0).trans rfl, (blk_cell BK238.out 1).trans rfl, (blk_cell BK238.out 2).trans rfl, (blk_cell BK238.out 3).trans rfl⟩ (fun hHeld => ?_)
          generalize w167.drew = w168 at HO246 HO252 HO259 HO266 BK238 BK239 BK261 BK268 HB hHeld ⊢
          refine take_ (i := 0) (N := some 35) (v := ?_) (a' := ?_) #[true, false, false, false, false] rfl rfl (by kernel_rfl) (fun _ _ _ h => h) (Or.inl ⟨by rfl, ?_⟩) hHeld ?_ ?_
          rotate_left
          · rintro w' ⟨s0, s1, s2, s3, s4, s5, s6, s7⟩
            go_simp
            with_reducible rfl
          rotate_left
          · simp only [Act.put, List.setIfInBounds_toArray, List.set_cons_zero, List.set_cons_succ, i64_w, i32_w]
            rfl
          refine take_ (i := 1) (N := some 36) (v := ?_) (a' := ?_) #[true, true, false, false, false] rfl rfl (by kernel_rfl) (fun _ _ _ h => h) (Or.inl ⟨by rfl, ?_⟩) hHeld ?_ ?_
          rotate_left
          · rintro w' ⟨s0, s1, s2, s3, s4, s5, s6, s7⟩
            go_simp
            with_reducible rfl
          rotate_left
          · simp only [Act.put, List.setIfInBounds_toArray, List.set_cons_zero, List.set_cons_succ, i64_w, i32_w]
            rfl
          refine one_ (i := 2) (N := some 37) #[true, true, true, false, false] rfl rfl (by kernel_rfl) (by decide) (fun K hK => ?_)
          refine goes_ Try.func44 (by kernel_rfl) rfl #[.agg #[.int .i64 a0_0, .int .i64 a0_1, .slice A0_2 l0_2.length c0_2, .int .i64 a0_3]] (by rfl) rfl rfl Kit.am ?_
          with_reducible refine (laws_toShard.calls k a0_0 a0_1 _ _ l0_2 a0_3 t270 t271 t272 t275 _ ?side1 ?side2 A56.out).mono ?_
          (case side1 => exact Kit.cx ((Kd.C_below HR0_2.out HB.out)))
          (case side2 => exact HC0_2.out)
          rintro e w169 ⟨v273, rfl, ho0, hb⟩
          refine ⟨_, rfl, ?_⟩
          have HO274 := Aside0.mk (Kd.S_lower (Kd.S_new' (Kd.S_new' (Kd.S_new' (Kd.S_new' ho0 (Kd.S_lt (Kit.sx HO246.out))) (Kd.S_lt (Kit.sx HO252.out))) (Kd.S_lt (Kit.sx HO259.out))) (Kd.S_lt (Kit.sx HO266.out))) Kit.bz)
          replace HO246 := Aside0.mk (Kd.S_elder' (Kit.sx HO246.out) (Kd.S_base ho0) hb)
          replace HO252 := Aside0.mk (Kd.S_elder' (Kit.sx HO252.out) (Kd.S_base ho0) hb)
          replace HO259 := Aside0.mk (Kd.S_elder' (Kit.sx HO259.out) (Kd.S_base ho0) hb)
          replace HO266 := Aside0.mk (Kd.S_elder' (Kit.sx HO266.out) (Kd.S_base ho0) hb)
          replace BK238 := Aside0.mk (Kit.bb BK238.out hb)
          replace BK239 := Aside0.mk (Kit.bb BK239.out hb)
          replace BK261 := Aside0.mk (Kit.bb BK261.out hb)
          replace BK268 := Aside0.mk (Kit.bb BK268.out hb)
          replace HB := Aside0.mk (below_step Kit.bl hb)
          (try clear hb)
          (try clear hb2)
          (try clear hk)
          (try clear hi)
          (try clear ho0)
          obtain ⟨Ao170, co170, eo170⟩ := Kd.S_slice HO274.out
          (first | subst eo170 | (injection eo170 with f1_ f2_ f3_; have f4_ := f1_.symm; have f5_ := f3_.symm; clear f1_ f2_ f3_; subst f4_; subst f5_))
          refine hK.out _ _ ⟨(blk_cell BK261.out 0).trans rfl, (blk_cell BK261.out 1).trans rfl, (blk_cell BK261.out 2).trans rfl, (blk_cell BK261.out 3).trans rfl, (blk_cell BK238.out 0).trans rfl, (blk_cell BK238.out 1).trans rfl, (blk_cell BK238.out 2).trans rfl, (blk_cell BK238.out 3).trans rfl⟩ (fun hHeld => ?_)
          clear hK K
          refine norm_ (a' := ?_) ?_ ?_
          rotate_left
          · show Act.put _ (some 37) _ = _
            simp only [Act.put, List.setIfInBounds_toArray, List.set_cons_zero, List.set_cons_succ, i64_w, i32_w]
            rfl
          refine one_ (i := 3) (N := some 38) #[true, true, true, true, false] rfl rfl (by kernel_rfl) (by decide) (fun K hK => ?_)
          refine goes_ Try.func37 (by kernel_rfl) rfl #[.agg #[.int .i64 t255, .int .i64 t256, .slice Ao157 t257.length co157, .int .i64 t260], .agg #[.int .i64 t270, .int .i64 t271, .slice Ao170 t272.length co170, .int .i64 t275]] (by rfl) rfl rfl Kit.am ?_
          with_reducible refine (laws_eqShard.calls k t255 t256 _ _ t257 t260 t270 t271 _ _ t272 t275 false _ ?side1 ?side2 ?side3 ?side4 A57.out).mono ?_
          (case side1 => exact Kit.cx ((Kd.S_reads' HO259.out).2.2))
          (case side2 => exact (Kd.S_reads' HO259.out).2.1)
          (case side3 => exact Kit.cx ((Kd.S_reads' HO274.out).2.2))
          (case side4 => exact (Kd.S_reads' HO274.out).2.1)
          rintro e w171 ⟨rfl, hb⟩
          refine ⟨_, rfl, ?_⟩
          replace HO246 := Aside0.mk (Kd.S_below (Kit.sx HO246.out) hb)
          replace HO252 := Aside0.mk (Kd.S_below (Kit.sx HO252.out) hb)
          replace HO259 := Aside0.mk (Kd.S_below (Kit.sx HO259.out) hb)
          replace HO266 := Aside0.mk (Kd.S_below (Kit.sx HO266.out) hb)
          replace HO274 := Aside0.mk (Kd.S_below (Kit.sx HO274.out) hb)
          replace BK238 := Aside0.mk (Kit.bb BK238.out hb)
          replace BK239 := Aside0.mk (Kit.bb BK239.out hb)
          replace BK261 := Aside0.mk (Kit.bb BK261.out hb)
          replace BK268 := Aside0.mk (Kit.bb BK268.out hb)
          replace HB := Aside0.mk (below_step Kit.bl hb)
          (try clear hb)
          (try clear hb2)
          (try clear hk)
          (try clear hi)
          refine hK.out _ _ ⟨(blk_cell BK261.out 0).trans rfl, (blk_cell BK261.out 1).trans rfl, (blk_cell BK261.out 2).trans rfl, (blk_cell BK261.out 3).trans rfl, (blk_cell BK238.out 0).trans rfl, (blk_cell BK238.out 1).trans rfl, (blk_cell BK238.out 2).trans rfl, (blk_cell BK238.out 3).trans rfl⟩ (fun hHeld => ?_)
          clear hK K
          refine norm_ (a' := ?_) ?_ ?_
          rotate_left
          · show Act.put _ (some 38) _ = _
            simp only [Act.put, List.setIfInBounds_toArray, List.set_cons_zero, List.set_cons_succ, i64_w, i32_w]
            rfl
          refine pure_ (i := 4) (N := some 39) (v := ?_) (a' := ?_) #[true, true, true, true, true] rfl rfl (by kernel_rfl) (fun _ _ _ h => h) (Or.inl ⟨by rfl, ?_⟩) ?_ ?_
          rotate_left
          · intro w'
            go_simp
            with_reducible rfl
          rotate_left
          · simp only [Act.put, List.setIfInBounds_toArray, List.set_cons_zero, List.set_cons_succ, i64_w, i32_w]
            rfl
          refine done_ (by kernel_rfl) ?_
          try go_wp2
          go_ret
          exact ⟨Kit.er, Kit.bl⟩

/-- THE ONE PURE STATEMENT of laws_FnExactSameShard. -/
def laws_FnExactSameShard.Pure : Prop := ∀ (x0 : S59) (x1 : S59), F59 x0 → F59 x1 → ∃ k, laws_FnExactSameShard.f k x0.f0 x0.f1 x0.f2 x0.f3 x1.f0 x1.f1 x1.f2 x1.f3 = some true
theorem laws_FnExactSameShard.walk (P : laws_FnExactSameShard.Pure) (x0 : S59) (cs0 : List Value) (x1 : S59) (cs1 : List Value) (w : World) (hk0 : k59.K w x0 cs0) (hf0 : F59 x0) (hk1 : k59.K w x1 cs1) (hf1 : F59 x1) :
    Calls Try.prog 12 #[.agg cs0.toArray, .agg cs1.toArray] w fun e w' => e = .returned (.bool true) ∧ Below w.heap.size w w' := by
  obtain ⟨A0_2, c0_2, rfl, l0_2, g0_2⟩ := k59_open hk0
  obtain ⟨A1_2, c1_2, rfl, l1_2, g1_2⟩ := k59_open hk1
  obtain ⟨k, h⟩ := P x0 x1 hf0 hf1
  refine (laws_FnExactSameShard.calls k x0.f0 x0.f1 A0_2 c0_2 x0.f2 x0.f3 x1.f0 x1.f1 A1_2 c1_2 x1.f2 x1.f3 true w g0_2 l0_2 g1_2 l1_2 h).mono ?_
  rintro e w' ⟨rfl, hd⟩
  exact ⟨rfl, hd⟩

end Go.Proofs.Ytlhnhilaeoegoaa.QFnExactSameShard
