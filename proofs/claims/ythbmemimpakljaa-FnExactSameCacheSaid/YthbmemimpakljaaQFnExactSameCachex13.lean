-- Written by own.py, a program of this session's own, which calls the kit's print. Lean checks it.
import Derived.Test.YthbmemimpakljaaQFnExactSameCachex0
import Derived.Test.YthbmemimpakljaaQFnExactSameCachex4
import Derived.Test.YthbmemimpakljaaQFnExactSameCachex8
import Derived.Test.YthbmemimpakljaaQFnExactSameCachex10
import Derived.Test.YthbmemimpakljaaQFnExactSameCachex12
namespace Go.Proofs.Ythbmemimpakljaa.QFnExactSameCache
open Go.RowKit Go.Proofs.YthbmemimpakljaaW.PrintWords Go.Proofs.YthbmemimpakljaaW.PrintLast
attribute [local go_sem] Kit.run_store_one   -- for this text's walks alone
set_option linter.unusedVariables false
set_option linter.unusedSimpArgs false

/-! ### laws_FnExactSameCache: function 9 -/
def laws_FnExactSameCache.f (k : Nat) (l0_0 : List (S120)) (l0_1 : List (S122)) (l1_0 : List (S120)) (l1_1 : List (S122)) : Option (Bool) := (laws_szCache.f k l0_0 l0_1 1048576).bind fun t303 => (if t303 < 0 then (some true) else ((laws_szCache.f k l1_0 l1_1 t303).bind fun t304 => (if t304 < 0 then (some true) else ((laws_toCache.f k l0_0 l0_1).bind fun bt305 => ((laws_toCache.f k l1_0 l1_1).bind fun bt311 => ((spec_SameCache.f k bt305.1 bt305.2 bt311.1 bt311.2).bind fun t317 => ((laws_toCache.f k l0_0 l0_1).bind fun bt318 => ((laws_toCache.f k l1_0 l1_1).bind fun bt325 => ((impl_SameCache.f k bt318.1 bt318.2 bt325.1 bt325.2).bind fun t332 => (if (t332 != t317) = true then (some false) else ((laws_toCache.f k l0_0 l0_1).bind fun bt333 => ((laws_eqCache.f k bt318.1 bt318.2 bt333.1 bt333.2).bind fun t339 => (if t339 = true then ((laws_toCache.f k l1_0 l1_1).bind fun bt340 => ((laws_eqCache.f k bt325.1 bt325.2 bt340.1 bt340.2).bind fun t346 => (if t346 = true then (some true) else (some false)))) else (some false))))))))))))))
theorem laws_FnExactSameCache.mono : ∀ a0 a1 a2 a3 k, LeO (laws_FnExactSameCache.f k a0 a1 a2 a3) (laws_FnExactSameCache.f (k + 1) a0 a1 a2 a3) := by
  intro a0 a1 a2 a3 k
  unfold laws_FnExactSameCache.f
  repeat' first
      | (with_reducible exact impl_SameCache.mono _ _ _ _ _)
      | (with_reducible exact laws_eqCache.mono _ _ _ _ _)
      | (with_reducible exact laws_szCache.mono _ _ _ _)
      | (with_reducible exact laws_toCache.mono _ _ _)
      | (with_reducible exact spec_SameCache.mono _ _ _ _ _)
      | (with_reducible exact LeO.refl _)
      | (with_reducible exact LeO.none _)
      | (with_reducible refine LeO.ite ?_ ?_)
      | (with_reducible refine LeO.bind ?_ (fun _ => ?_))
      | exact impl_SameCache.mono _ _ _ _ _
      | exact laws_eqCache.mono _ _ _ _ _
      | exact laws_szCache.mono _ _ _ _
      | exact laws_toCache.mono _ _ _
      | exact spec_SameCache.mono _ _ _ _ _
      | exact LeO.none _
      | refine LeO.ite ?_ ?_
      | refine LeO.bind ?_ (fun _ => ?_)
set_option maxHeartbeats 8000000 in
set_option maxRecDepth 100000 in
theorem laws_FnExactSameCache.calls (k : Nat) (A0_0 : Option Addr) (c0_0 : Nat) (l0_0 : List (S120)) (A0_1 : Option Addr) (c0_1 : Nat) (l0_1 : List (S122)) (A1_0 : Option Addr) (c1_0 : Nat) (l1_0 : List (S120)) (A1_1 : Option Addr) (c1_1 : Nat) (l1_1 : List (S122)) (r : Bool) (w : World) (hr0_0 : Kd.C k120 w A0_0 l0_0.length l0_0) (hc0_0 : l0_0.length ≤ c0_0) (hr0_1 : Kd.C k122 w A0_1 l0_1.length l0_1) (hc0_1 : l0_1.length ≤ c0_1) (hr1_0 : Kd.C k120 w A1_0 l1_0.length l1_0) (hc1_0 : l1_0.length ≤ c1_0) (hr1_1 : Kd.C k122 w A1_1 l1_1.length l1_1) (hc1_1 : l1_1.length ≤ c1_1) (h : laws_FnExactSameCache.f k l0_0 l0_1 l1_0 l1_1 = some r) :
    Calls Try.prog 9 #[.agg #[.slice A0_0 l0_0.length c0_0, .slice A0_1 l0_1.length c0_1], .agg #[.slice A1_0 l1_0.length c1_0, .slice A1_1 l1_1.length c1_1]] w fun e w' => e = .returned (.bool r) ∧ Below w.heap.size w w' := by
  have hu56 := Try.underlying56
  have hu62 := Try.underlying62
  have HR0_0 := Aside0.mk hr0_0
  have HC0_0 := Aside0.mk hc0_0
  clear hr0_0 hc0_0
  have HR0_1 := Aside0.mk hr0_1
  have HC0_1 := Aside0.mk hc0_1
  clear hr0_1 hc0_1
  have HR1_0 := Aside0.mk hr1_0
  have HC1_0 := Aside0.mk hc1_0
  clear hr1_0 hc1_0
  have HR1_1 := Aside0.mk hr1_1
  have HC1_1 := Aside0.mk hc1_1
  clear hr1_1 hc1_1
  have HB := Aside0.mk (Below.refl w.heap.size w)
  have H : ((laws_szCache.f k l0_0 l0_1 1048576).bind fun t303 => (if t303 < 0 then (some true) else ((laws_szCache.f k l1_0 l1_1 t303).bind fun t304 => (if t304 < 0 then (some true) else ((laws_toCache.f k l0_0 l0_1).bind fun bt305 => ((laws_toCache.f k l1_0 l1_1).bind fun bt311 => ((spec_SameCache.f k bt305.1 bt305.2 bt311.1 bt311.2).bind fun t317 => ((laws_toCache.f k l0_0 l0_1).bind fun bt318 => ((laws_toCache.f k l1_0 l1_1).bind fun bt325 => ((impl_SameCache.f k bt318.1 bt318.2 bt325.1 bt325.2).bind fun t332 => (if (t332 != t317) = true then (some false) else ((laws_toCache.f k l0_0 l0_1).bind fun bt333 => ((laws_eqCache.f k bt318.1 bt318.2 bt333.1 bt333.2).bind fun t339 => (if t339 = true then ((laws_toCache.f k l1_0 l1_1).bind fun bt340 => ((laws_eqCache.f k bt325.1 bt325.2 bt340.1 bt340.2).bind fun t346 => (if t346 = true then (some true) else (some false)))) else (some false))))))))))))))) = some r := h
  clear h
  replace H := Option.bind_eq_some_iff.mp H
  obtain ⟨t303, A30, H⟩ := H
  replace H : (if t303 < 0 then (some true) else ((laws_szCache.f k l1_0 l1_1 t303).bind fun t304 => (if t304 < 0 then (some true) else ((laws_toCache.f k l0_0 l0_1).bind fun bt305 => ((laws_toCache.f k l1_0 l1_1).bind fun bt311 => ((spec_SameCache.f k bt305.1 bt305.2 bt311.1 bt311.2).bind fun t317 => ((laws_toCache.f k l0_0 l0_1).bind fun bt318 => ((laws_toCache.f k l1_0 l1_1).bind fun bt325 => ((impl_SameCache.f k bt318.1 bt318.2 bt325.1 bt325.2).bind fun t332 => (if (t332 != t317) = true then (some false) else ((laws_toCache.f k l0_0 l0_1).bind fun bt333 => ((laws_eqCache.f k bt318.1 bt318.2 bt333.1 bt333.2).bind fun t339 => (if t339 = true then ((laws_toCache.f k l1_0 l1_1).bind fun bt340 => ((laws_eqCache.f k bt325.1 bt325.2 bt340.1 bt340.2).bind fun t346 => (if t346 = true then (some true) else (some false)))) else (some false)))))))))))))) = some r := H
  have A3 := Aside0.mk A30
  clear A30
  by_cases c4 : t303 < 0
  · rw [if_pos c4] at H
    have c4b0 : decide (t303 < 0) = true := decide_eq_true c4
    clear c4
    obtain rfl := Option.some.inj H
    go_enter Try.func9, Try.ntmps9
    go_wp2_with (first | ((with_reducible refine gate_dst (N := 2) rfl ?_); refine box_event ?hg (N := 2) ?hd (cs := #[.slice A0_0 l0_0.length c0_0, .slice A0_1 l0_1.length c0_1]) (t := 56) ?hr ?_; (case hd => rfl); (case hg => rfl); (case hr => exact Kit.hr); intro gb301 hg w5 hbox hb; have BK301 := Aside0.mk (hbox); have GW301 := Kit.gX (w := w) hg; have GE301 := GW301; replace HB := Kit.hB hb; clear hb hbox hg) | ((with_reducible refine gate_dst (N := 3) rfl ?_); refine box_event ?hg (N := 3) ?hd (cs := #[.slice A1_0 l1_0.length c1_0, .slice A1_1 l1_1.length c1_1]) (t := 56) ?hr ?_; (case hd => rfl); (case hg => rfl); (case hr => exact Kit.hr); intro gb302 hg w6 hbox hb; have BK302 := Aside0.mk (hbox); have GW302 := Kit.gX (w := w) hg; have GE302 := GW302; replace HB := Kit.hB hb; have NB301_302 := Aside0.mk (Kit.nlt hg BK301.out); have NB302_301 := Aside0.mk (Kit.ngt hg BK301.out); replace BK301 := Kit.bB BK301 hb; clear hb hbox hg; have hnb7 := NB301_302.out; have hnc7 := NB302_301.out; obtain ⟨hcz8_0, hcz8_1, hfz8_0, hfz8_1⟩ := Kit.c2 BK301.out) | ((with_reducible refine Kit.gate_callee (f := 29) rfl ?_); refine goesL_ (some 12) rfl rfl Try.func29 (by kernel_rfl) rfl #[.agg #[.slice A0_0 l0_0.length c0_0, .slice A0_1 l0_1.length c0_1], .int .i64 1048576] rfl Kit.am ?_; (with_reducible refine (laws_szCache.calls k _ _ l0_0 _ _ l0_1 1048576 t303 _ ?side1 ?side2 ?side3 ?side4 A3.out).mono ?_); (case side1 => exact Kit.cr HR0_0.out HB.out); (case side2 => exact HC0_0.out); (case side3 => exact Kit.cr HR0_1.out HB.out); (case side4 => exact HC0_1.out); rintro e w9 ⟨rfl, hb⟩; refine ⟨_, rfl, ?_⟩; replace BK301 := Kit.bB BK301 hb; replace BK302 := Kit.bB BK302 hb; replace HB := Kit.hB hb; (try clear hb); (try clear hb2); (try clear hk); (try clear hi)))
    go_ret
    exact ⟨Kit.er, Kit.bl⟩
  · rw [if_neg c4] at H
    have c4b0 : decide (t303 < 0) = false := decide_eq_false c4
    clear c4
    replace H := Option.bind_eq_some_iff.mp H
    obtain ⟨t304, A100, H⟩ := H
    replace H : (if t304 < 0 then (some true) else ((laws_toCache.f k l0_0 l0_1).bind fun bt305 => ((laws_toCache.f k l1_0 l1_1).bind fun bt311 => ((spec_SameCache.f k bt305.1 bt305.2 bt311.1 bt311.2).bind fun t317 => ((laws_toCache.f k l0_0 l0_1).bind fun bt318 => ((laws_toCache.f k l1_0 l1_1).bind fun bt325 => ((impl_SameCache.f k bt318.1 bt318.2 bt325.1 bt325.2).bind fun t332 => (if (t332 != t317) = true then (some false) else ((laws_toCache.f k l0_0 l0_1).bind fun bt333 => ((laws_eqCache.f k bt318.1 bt318.2 bt333.1 bt333.2).bind fun t339 => (if t339 = true then ((laws_toCache.f k l1_0 l1_1).bind fun bt340 => ((laws_eqCache.f k bt325.1 bt325.2 bt340.1 bt340.2).bind fun t346 => (if t346 = true then (some true) else (some false)))) else (some false)))))))))))) = some r := H
    have A10 := Aside0.mk A100
    clear A100
    by_cases c11 : t304 < 0
    · rw [if_pos c11] at H
      have c11b0 : decide (t304 < 0) = true := decide_eq_true c11
      clear c11
      obtain rfl := Option.some.inj H
      go_enter Try.func9, Try.ntmps9
      go_wp2_with (first | ((with_reducible refine gate_dst (N := 2) rfl ?_); refine box_event ?hg (N := 2) ?hd (cs := #[.slice A0_0 l0_0.length c0_0, .slice A0_1 l0_1.length c0_1]) (t := 56) ?hr ?_; (case hd => rfl); (case hg => rfl); (case hr => exact Kit.hr); intro gb301 hg w12 hbox hb; have BK301 := Aside0.mk (hbox); have GW301 := Kit.gX (w := w) hg; have GE301 := GW301; replace HB := Kit.hB hb; clear hb hbox hg) | ((with_reducible refine gate_dst (N := 3) rfl ?_); refine box_event ?hg (N := 3) ?hd (cs := #[.slice A1_0 l1_0.length c1_0, .slice A1_1 l1_1.length c1_1]) (t := 56) ?hr ?_; (case hd => rfl); (case hg => rfl); (case hr => exact Kit.hr); intro gb302 hg w13 hbox hb; have BK302 := Aside0.mk (hbox); have GW302 := Kit.gX (w := w) hg; have GE302 := GW302; replace HB := Kit.hB hb; have NB301_302 := Aside0.mk (Kit.nlt hg BK301.out); have NB302_301 := Aside0.mk (Kit.ngt hg BK301.out); replace BK301 := Kit.bB BK301 hb; clear hb hbox hg; have hnb14 := NB301_302.out; have hnc14 := NB302_301.out; obtain ⟨hcz15_0, hcz15_1, hfz15_0, hfz15_1⟩ := Kit.c2 BK301.out) | ((with_reducible refine Kit.gate_callee (f := 29) rfl ?_); refine goesL_ (some 12) rfl rfl Try.func29 (by kernel_rfl) rfl #[.agg #[.slice A0_0 l0_0.length c0_0, .slice A0_1 l0_1.length c0_1], .int .i64 1048576] rfl Kit.am ?_; (with_reducible refine (laws_szCache.calls k _ _ l0_0 _ _ l0_1 1048576 t303 _ ?side1 ?side2 ?side3 ?side4 A3.out).mono ?_); (case side1 => exact Kit.cr HR0_0.out HB.out); (case side2 => exact HC0_0.out); (case side3 => exact Kit.cr HR0_1.out HB.out); (case side4 => exact HC0_1.out); rintro e w16 ⟨rfl, hb⟩; refine ⟨_, rfl, ?_⟩; replace BK301 := Kit.bB BK301 hb; replace BK302 := Kit.bB BK302 hb; replace HB := Kit.hB hb; (try clear hb); (try clear hb2); (try clear hk); (try clear hi); obtain ⟨hcz17_0, hcz17_1, hfz17_0, hfz17_1⟩ := Kit.c2 BK302.out) | ((with_reducible refine Kit.gate_callee (f := 29) rfl ?_); refine goesL_ (some 17) rfl rfl Try.func29 (by kernel_rfl) rfl #[.agg #[.slice A1_0 l1_0.length c1_0, .slice A1_1 l1_1.length c1_1], .int .i64 t303] rfl Kit.am ?_; (with_reducible refine (laws_szCache.calls k _ _ l1_0 _ _ l1_1 t303 t304 _ ?side1 ?side2 ?side3 ?side4 A10.out).mono ?_); (case side1 => exact Kit.cr HR1_0.out HB.out); (case side2 => exact HC1_0.out); (case side3 => exact Kit.cr HR1_1.out HB.out); (case side4 => exact HC1_1.out); rintro e w18 ⟨rfl, hb⟩; refine ⟨_, rfl, ?_⟩; replace BK301 := Kit.bB BK301 hb; replace BK302 := Kit.bB BK302 hb; replace HB := Kit.hB hb; (try clear hb); (try clear hb2); (try clear hk); (try clear hi)))
      go_ret
      exact ⟨Kit.er, Kit.bl⟩
    · rw [if_neg c11] at H
      have c11b0 : decide (t304 < 0) = false := decide_eq_false c11
      clear c11
      replace H := Option.bind_eq_some_iff.mp H
      obtain ⟨⟨t305, t308⟩, A190, H⟩ := H
      replace H : ((laws_toCache.f k l1_0 l1_1).bind fun bt311 => ((spec_SameCache.f k t305 t308 bt311.1 bt311.2).bind fun t317 => ((laws_toCache.f k l0_0 l0_1).bind fun bt318 => ((laws_toCache.f k l1_0 l1_1).bind fun bt325 => ((impl_SameCache.f k bt318.1 bt318.2 bt325.1 bt325.2).bind fun t332 => (if (t332 != t317) = true then (some false) else ((laws_toCache.f k l0_0 l0_1).bind fun bt333 => ((laws_eqCache.f k bt318.1 bt318.2 bt333.1 bt333.2).bind fun t339 => (if t339 = true then ((laws_toCache.f k l1_0 l1_1).bind fun bt340 => ((laws_eqCache.f k bt325.1 bt325.2 bt340.1 bt340.2).bind fun t346 => (if t346 = true then (some true) else (some false)))) else (some false)))))))))) = some r := H
      have A19 := Aside0.mk A190
      clear A190
      replace H := Option.bind_eq_some_iff.mp H
      obtain ⟨⟨t311, t314⟩, A200, H⟩ := H
      replace H : ((spec_SameCache.f k t305 t308 t311 t314).bind fun t317 => ((laws_toCache.f k l0_0 l0_1).bind fun bt318 => ((laws_toCache.f k l1_0 l1_1).bind fun bt325 => ((impl_SameCache.f k bt318.1 bt318.2 bt325.1 bt325.2).bind fun t332 => (if (t332 != t317) = true then (some false) else ((laws_toCache.f k l0_0 l0_1).bind fun bt333 => ((laws_eqCache.f k bt318.1 bt318.2 bt333.1 bt333.2).bind fun t339 => (if t339 = true then ((laws_toCache.f k l1_0 l1_1).bind fun bt340 => ((laws_eqCache.f k bt325.1 bt325.2 bt340.1 bt340.2).bind fun t346 => (if t346 = true then (some true) else (some false)))) else (some false))))))))) = some r := H
      have A20 := Aside0.mk A200
      clear A200
      replace H := Option.bind_eq_some_iff.mp H
      obtain ⟨t317, A210, H⟩ := H
      replace H : ((laws_toCache.f k l0_0 l0_1).bind fun bt318 => ((laws_toCache.f k l1_0 l1_1).bind fun bt325 => ((impl_SameCache.f k bt318.1 bt318.2 bt325.1 bt325.2).bind fun t332 => (if (t332 != t317) = true then (some false) else ((laws_toCache.f k l0_0 l0_1).bind fun bt333 => ((laws_eqCache.f k bt318.1 bt318.2 bt333.1 bt333.2).bind fun t339 => (if t339 = true then ((laws_toCache.f k l1_0 l1_1).bind fun bt340 => ((laws_eqCache.f k bt325.1 bt325.2 bt340.1 bt340.2).bind fun t346 => (if t346 = true then (some true) else (some false)))) else (some false)))))))) = some r := H
      have A21 := Aside0.mk A210
      clear A210
      replace H := Option.bind_eq_some_iff.mp H
      obtain ⟨⟨t318, t321⟩, A220, H⟩ := H
      replace H : ((laws_toCache.f k l1_0 l1_1).bind fun bt325 => ((impl_SameCache.f k t318 t321 bt325.1 bt325.2).bind fun t332 => (if (t332 != t317) = true then (some false) else ((laws_toCache.f k l0_0 l0_1).bind fun bt333 => ((laws_eqCache.f k t318 t321 bt333.1 bt333.2).bind fun t339 => (if t339 = true then ((laws_toCache.f k l1_0 l1_1).bind fun bt340 => ((laws_eqCache.f k bt325.1 bt325.2 bt340.1 bt340.2).bind fun t346 => (if t346 = true then (some true) else (some false)))) else (some false))))))) = some r := H
      have A22 := Aside0.mk A220
      clear A220
      replace H := Option.bind_eq_some_iff.mp H
      obtain ⟨⟨t325, t328⟩, A230, H⟩ := H
      replace H : ((impl_SameCache.f k t318 t321 t325 t328).bind fun t332 => (if (t332 != t317) = true then (some false) else ((laws_toCache.f k l0_0 l0_1).bind fun bt333 => ((laws_eqCache.f k t318 t321 bt333.1 bt333.2).bind fun t339 => (if t339 = true then ((laws_toCache.f k l1_0 l1_1).bind fun bt340 => ((laws_eqCache.f k t325 t328 bt340.1 bt340.2).bind fun t346 => (if t346 = true then (some true) else (some false)))) else (some false)))))) = some r := H
      have A23 := Aside0.mk A230
      clear A230
      replace H := Option.bind_eq_some_iff.mp H
      obtain ⟨t332, A240, H⟩ := H
      replace H : (if (t332 != t317) = true then (some false) else ((laws_toCache.f k l0_0 l0_1).bind fun bt333 => ((laws_eqCache.f k t318 t321 bt333.1 bt333.2).bind fun t339 => (if t339 = true then ((laws_toCache.f k l1_0 l1_1).bind fun bt340 => ((laws_eqCache.f k t325 t328 bt340.1 bt340.2).bind fun t346 => (if t346 = true then (some true) else (some false)))) else (some false))))) = some r := H
      have A24 := Aside0.mk A240
      clear A240
      by_cases c25 : (t332 != t317) = true
      · rw [if_pos c25] at H
        have c25b0 : (t332 != t317) = true := c25
        (try (have c25b1 : decide (t332 = t317) = false := by simpa using c25))
        (try (have c25b2 : (t332 == t317) = false := by simpa using c25))
        (try (have c25b3 : ¬ (t332 = t317) := by simpa using c25))
        clear c25
        obtain rfl := Option.some.inj H
        go_enter Try.func9, Try.ntmps9
        try go_wp2_with (first | ((with_reducible refine gate_dst (N := 2) rfl ?_); refine box_event ?hg (N := 2) ?hd (cs := #[.slice A0_0 l0_0.length c0_0, .slice A0_1 l0_1.length c0_1]) (t := 56) ?hr ?_; (case hd => rfl); (case hg => rfl); (case hr => exact Kit.hr); intro gb301 hg w26 hbox hb; have BK301 := Aside0.mk (hbox); have GW301 := Kit.gX (w := w) hg; have GE301 := GW301; replace HB := Kit.hB hb; clear hb hbox hg) | ((with_reducible refine gate_dst (N := 3) rfl ?_); refine box_event ?hg (N := 3) ?hd (cs := #[.slice A1_0 l1_0.length c1_0, .slice A1_1 l1_1.length c1_1]) (t := 56) ?hr ?_; (case hd => rfl); (case hg => rfl); (case hr => exact Kit.hr); intro gb302 hg w27 hbox hb; have BK302 := Aside0.mk (hbox); have GW302 := Kit.gX (w := w) hg; have GE302 := GW302; replace HB := Kit.hB hb; have NB301_302 := Aside0.mk (Kit.nlt hg BK301.out); have NB302_301 := Aside0.mk (Kit.ngt hg BK301.out); replace BK301 := Kit.bB BK301 hb; clear hb hbox hg; have hnb28 := NB301_302.out; have hnc28 := NB302_301.out; obtain ⟨hcz29_0, hcz29_1, hfz29_0, hfz29_1⟩ := Kit.c2 BK301.out) | ((with_reducible refine Kit.gate_callee (f := 29) rfl ?_); refine goesL_ (some 12) rfl rfl Try.func29 (by kernel_rfl) rfl #[.agg #[.slice A0_0 l0_0.length c0_0, .slice A0_1 l0_1.length c0_1], .int .i64 1048576] rfl Kit.am ?_; (with_reducible refine (laws_szCache.calls k _ _ l0_0 _ _ l0_1 1048576 t303 _ ?side1 ?side2 ?side3 ?side4 A3.out).mono ?_); (case side1 => exact Kit.cr HR0_0.out HB.out); (case side2 => exact HC0_0.out); (case side3 => exact Kit.cr HR0_1.out HB.out); (case side4 => exact HC0_1.out); rintro e w30 ⟨rfl, hb⟩; refine ⟨_, rfl, ?_⟩; replace BK301 := Kit.bB BK301 hb; replace BK302 := Kit.bB BK302 hb; replace HB := Kit.hB hb; (try clear hb); (try clear hb2); (try clear hk); (try clear hi); obtain ⟨hcz31_0, hcz31_1, hfz31_0, hfz31_1⟩ := Kit.c2 BK302.out) | ((with_reducible refine Kit.gate_callee (f := 29) rfl ?_); refine goesL_ (some 17) rfl rfl Try.func29 (by kernel_rfl) rfl #[.agg #[.slice A1_0 l1_0.length c1_0, .slice A1_1 l1_1.length c1_1], .int .i64 t303] rfl Kit.am ?_; (with_reducible refine (laws_szCache.calls k _ _ l1_0 _ _ l1_1 t303 t304 _ ?side1 ?side2 ?side3 ?side4 A10.out).mono ?_); (case side1 => exact Kit.cr HR1_0.out HB.out); (case side2 => exact HC1_0.out); (case side3 => exact Kit.cr HR1_1.out HB.out); (case side4 => exact HC1_1.out); rintro e w32 ⟨rfl, hb⟩; refine ⟨_, rfl, ?_⟩; replace BK301 := Kit.bB BK301 hb; replace BK302 := Kit.bB BK302 hb; replace HB := Kit.hB hb; (try clear hb); (try clear hb2); (try clear hk); (try clear hi)))
        replace BK301 := Aside0.mk (blk_drew BK301.out)
        replace BK302 := Aside0.mk (blk_drew BK302.out)
        replace HB := Aside0.mk (below_drew1 HB.out)
        refine start_ (n := 6) (S := fun w' => w'.cell? ⟨gb301, 0, none⟩ = some (.slice A0_0 l0_0.length c0_0) ∧ w'.cell? ⟨gb301, 1, none⟩ = some (.slice A0_1 l0_1.length c0_1) ∧ w'.cell? ⟨gb302, 0, none⟩ = some (.slice A1_0 l1_0.length c1_0) ∧ w'.cell? ⟨gb302, 1, none⟩ = some (.slice A1_1 l1_1.length c1_1)) (ds := []) #[false, false, false, false, false, false] (by kernel_rfl) rfl rfl ⟨(blk_cell BK301.out 0).trans rfl, (blk_cell BK301.out 1).trans rfl, (blk_cell BK302.out 0).trans rfl, (blk_cell BK302.out 1).trans rfl⟩ (fun hHeld => ?_)
        generalize w32.drew = w33 at BK301 BK302 HB hHeld ⊢
        refine take_ (i := 0) (N := some 20) (v := ?_) (a' := ?_) #[true, false, false, false, false, false] rfl rfl (by kernel_rfl) (fun _ _ _ h => h) (Or.inl ⟨by rfl, ?_⟩) hHeld ?_ ?_
        rotate_left
        · rintro w' ⟨s0, s1, s2, s3⟩
          go_simp
          with_reducible rfl
        rotate_left
        · simp only [Act.put, List.setIfInBounds_toArray, List.set_cons_zero, List.set_cons_succ, i64_w, i32_w]
          rfl
        refine take_ (i := 2) (N := some 22) (v := ?_) (a' := ?_) #[true, false, true, false, false, false] rfl rfl (by kernel_rfl) (fun _ _ _ h => h) (Or.inl ⟨by rfl, ?_⟩) hHeld ?_ ?_
        rotate_left
        · rintro w' ⟨s0, s1, s2, s3⟩
          go_simp
          with_reducible rfl
        rotate_left
        · simp only [Act.put, List.setIfInBounds_toArray, List.set_cons_zero, List.set_cons_succ, i64_w, i32_w]
          rfl
        refine one_ (i := 1) (N := some 21) #[true, true, true, false, false, false] rfl rfl (by kernel_rfl) (by decide) (fun K hK => ?_)
        refine goes_ Try.func31 (by kernel_rfl) rfl #[.agg #[.slice A0_0 l0_0.length c0_0, .slice A0_1 l0_1.length c0_1]] (by rfl) rfl rfl Kit.am ?_
        with_reducible refine (laws_toCache.calls k _ _ l0_0 _ _ l0_1 t305 t308 _ ?side1 ?side2 ?side3 ?side4 A19.out).mono ?_
        (case side1 => exact Kit.cr HR0_0.out HB.out)
        (case side2 => exact HC0_0.out)
        (case side3 => exact Kit.cr HR0_1.out HB.out)
        (case side4 => exact HC0_1.out)
        rintro e w34 ⟨v306, v309, rfl, ho0, ho1, hb⟩
        refine ⟨_, rfl, ?_⟩
        have HO307 := Aside0.mk (Kd.R_lower ho0 Kit.bz)
        have HO310 := Aside0.mk (Kd.R_lower ho1 Kit.bz)
        replace BK301 := Kit.bB BK301 hb
        replace BK302 := Kit.bB BK302 hb
        replace HB := Kit.hB hb
        (try clear hb)
        (try clear hb2)
        (try clear hk)
        (try clear hi)
        (try clear ho0)
        (try clear ho1)
        refine hK.out _ _ ⟨(blk_cell BK301.out 0).trans rfl, (blk_cell BK301.out 1).trans rfl, (blk_cell BK302.out 0).trans rfl, (blk_cell BK302.out 1).trans rfl⟩ (fun hHeld => ?_)
        clear hK K
        refine norm_ (a' := ?_) ?_ ?_
        rotate_left
        · show Act.put _ (some 21) _ = _
          simp only [Act.put, List.setIfInBounds_toArray, List.set_cons_zero, List.set_cons_succ, i64_w, i32_w]
          rfl
        refine one_ (i := 3) (N := some 23) #[true, true, true, true, false, false] rfl rfl (by kernel_rfl) (by decide) (fun K hK => ?_)
        refine goes_ Try.func31 (by kernel_rfl) rfl #[.agg #[.slice A1_0 l1_0.length c1_0, .slice A1_1 l1_1.length c1_1]] (by rfl) rfl rfl Kit.am ?_
        with_reducible refine (laws_toCache.calls k _ _ l1_0 _ _ l1_1 t311 t314 _ ?side1 ?side2 ?side3 ?side4 A20.out).mono ?_
        (case side1 => exact Kit.cr HR1_0.out HB.out)
        (case side2 => exact HC1_0.out)
        (case side3 => exact Kit.cr HR1_1.out HB.out)
        (case side4 => exact HC1_1.out)
        rintro e w35 ⟨v312, v315, rfl, ho0, ho1, hb⟩
        refine ⟨_, rfl, ?_⟩
        have HO313 := Aside0.mk (Kd.R_lower (Kd.R_new' ho0 (Kd.R_lt (Kit.rx HO307.out))) Kit.bz)
        replace HO307 := Aside0.mk (Kd.R_elder' (Kit.rx HO307.out) (Kd.R_base ho0) hb)
        have HO316 := Aside0.mk (Kd.R_lower (Kd.R_new' ho1 (Kd.R_lt (Kit.rx HO310.out))) Kit.bz)
        replace HO310 := Aside0.mk (Kd.R_elder' (Kit.rx HO310.out) (Kd.R_base ho1) hb)
        replace BK301 := Kit.bB BK301 hb
        replace BK302 := Kit.bB BK302 hb
        replace HB := Kit.hB hb
        (try clear hb)
        (try clear hb2)
        (try clear hk)
        (try clear hi)
        (try clear ho0)
        (try clear ho1)
        obtain ⟨Ao36, co36, eo36⟩ := Kd.R_slice HO307.out
        (first | subst eo36 | (injection eo36 with f1_ f2_ f3_; have f4_ := f1_.symm; have f5_ := f3_.symm; clear f1_ f2_ f3_; subst f4_; subst f5_))
        obtain ⟨Ao37, co37, eo37⟩ := Kd.R_slice HO310.out
        (first | subst eo37 | (injection eo37 with f1_ f2_ f3_; have f4_ := f1_.symm; have f5_ := f3_.symm; clear f1_ f2_ f3_; subst f4_; subst f5_))
        obtain ⟨Ao38, co38, eo38⟩ := Kd.R_slice HO313.out
        (first | subst eo38 | (injection eo38 with f1_ f2_ f3_; have f4_ := f1_.symm; have f5_ := f3_.symm; clear f1_ f2_ f3_; subst f4_; subst f5_))
        obtain ⟨Ao39, co39, eo39⟩ := Kd.R_slice HO316.out
        (first | subst eo39 | (injection eo39 with f1_ f2_ f3_; have f4_ := f1_.symm; have f5_ := f3_.symm; clear f1_ f2_ f3_; subst f4_; subst f5_))
        refine hK.out _ _ ⟨(blk_cell BK301.out 0).trans rfl, (blk_cell BK301.out 1).trans rfl, (blk_cell BK302.out 0).trans rfl, (blk_cell BK302.out 1).trans rfl⟩ (fun hHeld => ?_)
        clear hK K
        refine norm_ (a' := ?_) ?_ ?_
        rotate_left
        · show Act.put _ (some 23) _ = _
          simp only [Act.put, List.setIfInBounds_toArray, List.set_cons_zero, List.set_cons_succ, i64_w, i32_w]
          rfl
        refine one_ (i := 4) (N := some 24) #[true, true, true, true, true, false] rfl rfl (by kernel_rfl) (by decide) (fun K hK => ?_)
        refine goes_ Try.func40 (by kernel_rfl) rfl #[.agg #[.slice Ao36 t305.length co36, .slice Ao37 t308.length co37], .agg #[.slice Ao38 t311.length co38, .slice Ao39 t314.length co39]] (by rfl) rfl rfl Kit.am ?_
        with_reducible refine (spec_SameCache.calls k _ _ t305 _ _ t308 _ _ t311 _ _ t314 t317 _ ?side1 ?side2 ?side3 ?side4 ?side5 ?side6 ?side7 ?side8 A21.out).mono ?_
        (case side1 => exact Kit.cx ((Kd.R_reads' HO307.out).2.2))
        (case side2 => exact (Kd.R_reads' HO307.out).2.1)
        (case side3 => exact Kit.cx ((Kd.R_reads' HO310.out).2.2))
        (case side4 => exact (Kd.R_reads' HO310.out).2.1)
        (case side5 => exact Kit.cx ((Kd.R_reads' HO313.out).2.2))
        (case side6 => exact (Kd.R_reads' HO313.out).2.1)
        (case side7 => exact Kit.cx ((Kd.R_reads' HO316.out).2.2))
        (case side8 => exact (Kd.R_reads' HO316.out).2.1)
        rintro e w40 ⟨rfl, hb⟩
        refine ⟨_, rfl, ?_⟩
        replace HO307 := Aside0.mk (Kd.R_below (Kit.rx HO307.out) hb)
        replace HO310 := Aside0.mk (Kd.R_below (Kit.rx HO310.out) hb)
        replace HO313 := Aside0.mk (Kd.R_below (Kit.rx HO313.out) hb)
        replace HO316 := Aside0.mk (Kd.R_below (Kit.rx HO316.out) hb)
        replace BK301 := Kit.bB BK301 hb
        replace BK302 := Kit.bB BK302 hb
        replace HB := Kit.hB hb
        (try clear hb)
        (try clear hb2)
        (try clear hk)
        (try clear hi)
        refine hK.out _ _ ⟨(blk_cell BK301.out 0).trans rfl, (blk_cell BK301.out 1).trans rfl, (blk_cell BK302.out 0).trans rfl, (blk_cell BK302.out 1).trans rfl⟩ (fun hHeld => ?_)
        clear hK K
        refine norm_ (a' := ?_) ?_ ?_
        rotate_left
        · show Act.put _ (some 24) _ = _
          simp only [Act.put, List.setIfInBounds_toArray, List.set_cons_zero, List.set_cons_succ, i64_w, i32_w]
          rfl
        refine pure_ (i := 5) (N := some 6) (v := ?_) (a' := ?_) #[true, true, true, true, true, true] rfl rfl (by kernel_rfl) (fun _ _ _ h => h) (Or.inl ⟨by rfl, ?_⟩) ?_ ?_
        rotate_left
        · intro w'
          go_simp
          with_reducible rfl
        rotate_left
        · simp only [Act.put, List.setIfInBounds_toArray, List.set_cons_zero, List.set_cons_succ, i64_w, i32_w]
          rfl
        refine done_ (by kernel_rfl) ?_
        obtain ⟨hcz41_0, hcz41_1, hfz41_0, hfz41_1⟩ := Kit.c2 BK301.out
        try go_wp2_with (first | ((with_reducible refine Kit.gate_callee (f := 31) rfl ?_); refine goesL_ (some 26) rfl rfl Try.func31 (by kernel_rfl) rfl #[.agg #[.slice A0_0 l0_0.length c0_0, .slice A0_1 l0_1.length c0_1]] rfl Kit.am ?_; (with_reducible refine (laws_toCache.calls k _ _ l0_0 _ _ l0_1 t318 t321 _ ?side1 ?side2 ?side3 ?side4 A22.out).mono ?_); (case side1 => exact Kit.cr HR0_0.out HB.out); (case side2 => exact HC0_0.out); (case side3 => exact Kit.cr HR0_1.out HB.out); (case side4 => exact HC0_1.out); rintro e w42 ⟨v319, v322, rfl, ho0, ho1, hb⟩; refine ⟨_, rfl, ?_⟩; have one_v319 : (v319 : Value).oneCell' = true := Kit.ov0; have one_v322 : (v322 : Value).oneCell' = true := Kit.ov1; have HO320 := Aside0.mk (Kd.R_lower (Kd.R_new' (Kd.R_new' ho0 (Kd.R_lt (Kit.rx HO307.out))) (Kd.R_lt (Kit.rx HO313.out))) Kit.bz); replace HO307 := Aside0.mk (Kd.R_elder' (Kit.rx HO307.out) (Kd.R_base ho0) hb); replace HO313 := Aside0.mk (Kd.R_elder' (Kit.rx HO313.out) (Kd.R_base ho0) hb); have HO323 := Aside0.mk (Kd.R_lower (Kd.R_new' (Kd.R_new' ho1 (Kd.R_lt (Kit.rx HO310.out))) (Kd.R_lt (Kit.rx HO316.out))) Kit.bz); replace HO310 := Aside0.mk (Kd.R_elder' (Kit.rx HO310.out) (Kd.R_base ho1) hb); replace HO316 := Aside0.mk (Kd.R_elder' (Kit.rx HO316.out) (Kd.R_base ho1) hb); replace BK301 := Kit.bB BK301 hb; replace BK302 := Kit.bB BK302 hb; replace HB := Kit.hB hb; (try clear hb); (try clear hb2); (try clear hk); (try clear hi); (try clear ho0); (try clear ho1)) | ((with_reducible refine gate_dst (N := 7) rfl ?_); refine box_event ?hg (N := 7) ?hd (cs := #[.slice none 0 0, .slice none 0 0]) (t := 62) ?hr ?_; (case hd => rfl); (case hg => rfl); (case hr => exact Kit.hr); intro gb324 hg w43 hbox hb; replace HO307 := Aside0.mk (Kd.R_below (Kit.rx HO307.out) hb); replace HO310 := Aside0.mk (Kd.R_below (Kit.rx HO310.out) hb); replace HO313 := Aside0.mk (Kd.R_below (Kit.rx HO313.out) hb); replace HO316 := Aside0.mk (Kd.R_below (Kit.rx HO316.out) hb); replace HO320 := Aside0.mk (Kd.R_below (Kit.rx HO320.out) hb); replace HO323 := Aside0.mk (Kd.R_below (Kit.rx HO323.out) hb); have BK324 := Aside0.mk (hbox); have GW324 := Kit.gX (w := w) hg; have GE324 := GW324; replace HB := Kit.hB hb; have NB301_324 := Aside0.mk (Kit.nlt hg BK301.out); have NB324_301 := Aside0.mk (Kit.ngt hg BK301.out); replace BK301 := Kit.bB BK301 hb; have NB302_324 := Aside0.mk (Kit.nlt hg BK302.out); have NB324_302 := Aside0.mk (Kit.ngt hg BK302.out); replace BK302 := Kit.bB BK302 hb; clear hb hbox hg; obtain ⟨Ao44, co44, eo44⟩ := Kd.R_slice HO320.out; subst eo44; have hnb45 := NB324_301.out; have hnc45 := NB301_324.out; have hnb46 := NB324_302.out; have hnc46 := NB302_324.out; obtain ⟨hcz47_0, hcz47_1, hfz47_0, hfz47_1⟩ := Kit.c2 BK324.out; obtain ⟨Ao48, co48, eo48⟩ := Kd.R_slice HO323.out; subst eo48; obtain ⟨hcz49_0, hcz49_1, hfz49_0, hfz49_1⟩ := Kit.c2 BK302.out) | ((with_reducible refine Kit.gate_callee (f := 31) rfl ?_); refine goesL_ (some 28) rfl rfl Try.func31 (by kernel_rfl) rfl #[.agg #[.slice A1_0 l1_0.length c1_0, .slice A1_1 l1_1.length c1_1]] rfl Kit.am ?_; (with_reducible refine (laws_toCache.calls k _ _ l1_0 _ _ l1_1 t325 t328 _ ?side1 ?side2 ?side3 ?side4 A23.out).mono ?_); (case side1 => exact Kd.C_below HR1_0.out Kit.bl); (case side2 => exact HC1_0.out); (case side3 => exact Kd.C_below HR1_1.out Kit.bl); (case side4 => exact HC1_1.out); rintro e w50 ⟨v326, v329, rfl, ho0, ho1, hb⟩; refine ⟨_, rfl, ?_⟩; have one_v326 : (v326 : Value).oneCell' = true := Kit.ov0; have one_v329 : (v329 : Value).oneCell' = true := Kit.ov1; have n0_ := Aside0.mk (Kd.R_elder' (Kit.rf HO307.out BK324.out) (Kd.R_base ho0) hb); have n1_ := Aside0.mk (Kd.R_elder' (Kit.rf HO310.out BK324.out) (Kd.R_base ho1) hb); have n2_ := Aside0.mk (Kd.R_elder' (Kit.rf HO313.out BK324.out) (Kd.R_base ho0) hb); have n3_ := Aside0.mk (Kd.R_elder' (Kit.rf HO316.out BK324.out) (Kd.R_base ho1) hb); have n4_ := Aside0.mk (Kd.R_elder' (Kit.rf HO320.out BK324.out) (Kd.R_base ho0) hb); have n5_ := Aside0.mk (Kd.R_elder' (Kit.rf HO323.out BK324.out) (Kd.R_base ho1) hb); have n6_ := Aside0.mk (Kd.R_lower (Kd.R_new' (Kd.R_new' (Kd.R_new' ho0 (Kd.R_lt (Kit.rf HO307.out BK324.out))) (Kd.R_lt (Kit.rf HO313.out BK324.out))) (Kd.R_lt (Kit.rf HO320.out BK324.out))) Kit.bz); have n7_ := Aside0.mk (Kd.R_lower (Kd.R_new' (Kd.R_new' (Kd.R_new' ho1 (Kd.R_lt (Kit.rf HO310.out BK324.out))) (Kd.R_lt (Kit.rf HO316.out BK324.out))) (Kd.R_lt (Kit.rf HO323.out BK324.out))) Kit.bz); have n8_ := Aside0.mk (Kit.bf BK301.out hb); have n9_ := Aside0.mk (Kit.bf BK302.out hb); have n10_ := Aside0.mk (blk_below (g := gb324) (o := .cells #[.slice Ao44 t318.length co44, .slice Ao48 t321.length co48] 62 (0, 0)) (by (with_reducible repeat (first | refine blk_drewN ?_ _ | refine blk_drew ?_ | refine blk_alloc ?_ _)); refine blk_put (cs := #[.slice Ao44 t318.length co44, .slice none 0 0]) ?_ 1 _ rfl; (with_reducible repeat (first | refine blk_drewN ?_ _ | refine blk_drew ?_ | refine blk_alloc ?_ _)); refine blk_put (cs := #[.slice none 0 0, .slice none 0 0]) ?_ 0 _ rfl; (with_reducible repeat (first | refine blk_drewN ?_ _ | refine blk_drew ?_ | refine blk_alloc ?_ _)); exact BK324.out) hb); have n11_ := Kit.hB hb; clear HO307; clear HO310; clear HO313; clear HO316; clear HO320; clear HO323; clear BK301; clear BK302; clear BK324; clear HB; have HO307 := n0_; have HO310 := n1_; have HO313 := n2_; have HO316 := n3_; have HO320 := n4_; have HO323 := n5_; have HO327 := n6_; have HO330 := n7_; have BK301 := n8_; have BK302 := n9_; have BK324 := n10_; have HB := n11_; clear n0_ n1_ n2_ n3_ n4_ n5_ n6_ n7_ n8_ n9_ n10_ n11_; (try clear hb); (try clear hb2); (try clear hk); (try clear hi); (try clear ho0); (try clear ho1)) | ((with_reducible refine gate_dst (N := 8) rfl ?_); refine box_event ?hg (N := 8) ?hd (cs := #[.slice none 0 0, .slice none 0 0]) (t := 62) ?hr ?_; (case hd => rfl); (case hg => rfl); (case hr => exact Kit.hr); intro gb331 hg w51 hbox hb; replace HO307 := Aside0.mk (Kd.R_below (Kit.rx HO307.out) hb); replace HO310 := Aside0.mk (Kd.R_below (Kit.rx HO310.out) hb); replace HO313 := Aside0.mk (Kd.R_below (Kit.rx HO313.out) hb); replace HO316 := Aside0.mk (Kd.R_below (Kit.rx HO316.out) hb); replace HO320 := Aside0.mk (Kd.R_below (Kit.rx HO320.out) hb); replace HO323 := Aside0.mk (Kd.R_below (Kit.rx HO323.out) hb); replace HO327 := Aside0.mk (Kd.R_below (Kit.rx HO327.out) hb); replace HO330 := Aside0.mk (Kd.R_below (Kit.rx HO330.out) hb); have BK331 := Aside0.mk (hbox); have GW331 := Kit.gX (w := w) hg; have GE331 := GW331; replace HB := Kit.hB hb; have NB301_331 := Aside0.mk (Kit.nlt hg BK301.out); have NB331_301 := Aside0.mk (Kit.ngt hg BK301.out); replace BK301 := Kit.bB BK301 hb; have NB302_331 := Aside0.mk (Kit.nlt hg BK302.out); have NB331_302 := Aside0.mk (Kit.ngt hg BK302.out); replace BK302 := Kit.bB BK302 hb; have NB324_331 := Aside0.mk (Kit.nlt hg BK324.out); have NB331_324 := Aside0.mk (Kit.ngt hg BK324.out); replace BK324 := Kit.bB BK324 hb; clear hb hbox hg; obtain ⟨Ao52, co52, eo52⟩ := Kd.R_slice HO327.out; subst eo52; have hnb53 := NB331_301.out; have hnc53 := NB301_331.out; have hnb54 := NB331_302.out; have hnc54 := NB302_331.out; have hnb55 := NB331_324.out; have hnc55 := NB324_331.out; obtain ⟨hcz56_0, hcz56_1, hfz56_0, hfz56_1⟩ := Kit.c2 BK331.out; obtain ⟨Ao57, co57, eo57⟩ := Kd.R_slice HO330.out; subst eo57; obtain ⟨hcz58_0, hcz58_1, hfz58_0, hfz58_1⟩ := Kit.c2 BK324.out) | ((with_reducible refine Kit.gate_callee (f := 41) rfl ?_); refine goesL_ (some 31) rfl rfl Try.func41 (by kernel_rfl) rfl #[.agg #[.slice Ao44 t318.length co44, .slice Ao48 t321.length co48], .agg #[.slice Ao52 t325.length co52, .slice Ao57 t328.length co57]] rfl Kit.am ?_; (with_reducible refine (impl_SameCache.calls k _ _ t318 _ _ t321 _ _ t325 _ _ t328 t332 _ ?side1 ?side2 ?side3 ?side4 ?side5 ?side6 ?side7 ?side8 A24.out).mono ?_); (case side1 => refine (Kd.R_reads' (e := 97) (base := w.heap.size) (ok := fun k_ => (((True ∧ some k_ ≠ (.slice Ao36 t305.length co36 : Value).ownBlock) ∧ some k_ ≠ (.slice Ao38 t311.length co38 : Value).ownBlock) ∧ some k_ ≠ (.slice Ao52 t325.length co52 : Value).ownBlock)) (n := t318.length) (c := co44) ?_).2.2; exact (Kit.rf HO320.out BK331.out)); (case side2 => exact (Kd.R_reads' HO320.out).2.1); (case side3 => refine (Kd.R_reads' (e := 89) (base := w.heap.size) (ok := fun k_ => (((True ∧ some k_ ≠ (.slice Ao37 t308.length co37 : Value).ownBlock) ∧ some k_ ≠ (.slice Ao39 t314.length co39 : Value).ownBlock) ∧ some k_ ≠ (.slice Ao57 t328.length co57 : Value).ownBlock)) (n := t321.length) (c := co48) ?_).2.2; exact (Kit.rf HO323.out BK331.out)); (case side4 => exact (Kd.R_reads' HO323.out).2.1); (case side5 => refine (Kd.R_reads' (e := 97) (base := w.heap.size) (ok := fun k_ => (((True ∧ some k_ ≠ (.slice Ao36 t305.length co36 : Value).ownBlock) ∧ some k_ ≠ (.slice Ao38 t311.length co38 : Value).ownBlock) ∧ some k_ ≠ (.slice Ao44 t318.length co44 : Value).ownBlock)) (n := t325.length) (c := co52) ?_).2.2; exact (Kit.rf HO327.out BK331.out)); (case side6 => exact (Kd.R_reads' HO327.out).2.1); (case side7 => refine (Kd.R_reads' (e := 89) (base := w.heap.size) (ok := fun k_ => (((True ∧ some k_ ≠ (.slice Ao37 t308.length co37 : Value).ownBlock) ∧ some k_ ≠ (.slice Ao39 t314.length co39 : Value).ownBlock) ∧ some k_ ≠ (.slice Ao48 t321.length co48 : Value).ownBlock)) (n := t328.length) (c := co57) ?_).2.2; exact (Kit.rf HO330.out BK331.out)); (case side8 => exact (Kd.R_reads' HO330.out).2.1); rintro e w59 ⟨rfl, hb⟩; refine ⟨_, rfl, ?_⟩; have n0_ := Aside0.mk (Kd.R_below (Kit.rf HO307.out BK331.out) hb); have n1_ := Aside0.mk (Kd.R_below (Kit.rf HO310.out BK331.out) hb); have n2_ := Aside0.mk (Kd.R_below (Kit.rf HO313.out BK331.out) hb); have n3_ := Aside0.mk (Kd.R_below (Kit.rf HO316.out BK331.out) hb); have n4_ := Aside0.mk (Kd.R_below (Kit.rf HO320.out BK331.out) hb); have n5_ := Aside0.mk (Kd.R_below (Kit.rf HO323.out BK331.out) hb); have n6_ := Aside0.mk (Kd.R_below (Kit.rf HO327.out BK331.out) hb); have n7_ := Aside0.mk (Kd.R_below (Kit.rf HO330.out BK331.out) hb); have n8_ := Aside0.mk (Kit.bf BK301.out hb); have n9_ := Aside0.mk (Kit.bf BK302.out hb); have n10_ := Aside0.mk (Kit.bf BK324.out hb); have n11_ := Aside0.mk (blk_below (g := gb331) (o := .cells #[.slice Ao52 t325.length co52, .slice Ao57 t328.length co57] 62 (0, 0)) (by (with_reducible repeat (first | refine blk_drewN ?_ _ | refine blk_drew ?_ | refine blk_alloc ?_ _)); refine blk_put (cs := #[.slice Ao52 t325.length co52, .slice none 0 0]) ?_ 1 _ rfl; (with_reducible repeat (first | refine blk_drewN ?_ _ | refine blk_drew ?_ | refine blk_alloc ?_ _)); refine blk_put (cs := #[.slice none 0 0, .slice none 0 0]) ?_ 0 _ rfl; (with_reducible repeat (first | refine blk_drewN ?_ _ | refine blk_drew ?_ | refine blk_alloc ?_ _)); exact BK331.out) hb); have n12_ := Kit.hB hb; clear HO307; clear HO310; clear HO313; clear HO316; clear HO320; clear HO323; clear HO327; clear HO330; clear BK301; clear BK302; clear BK324; clear BK331; clear HB; have HO307 := n0_; have HO310 := n1_; have HO313 := n2_; have HO316 := n3_; have HO320 := n4_; have HO323 := n5_; have HO327 := n6_; have HO330 := n7_; have BK301 := n8_; have BK302 := n9_; have BK324 := n10_; have BK331 := n11_; have HB := n12_; clear n0_ n1_ n2_ n3_ n4_ n5_ n6_ n7_ n8_ n9_ n10_ n11_ n12_; (try clear hb); (try clear hb2); (try clear hk); (try clear hi)))
        go_ret
        exact ⟨Kit.er, Kit.bl⟩
      · rw [if_neg c25] at H
        have c25b0 : (t332 != t317) = false := by simpa using c25
        (try (have c25b1 : decide (t332 = t317) = true := by simpa using c25))
        (try (have c25b2 : (t332 == t317) = true := by simpa using c25))
        clear c25
        replace H := Option.bind_eq_some_iff.mp H
        obtain ⟨⟨t333, t336⟩, A600, H⟩ := H
        replace H : ((laws_eqCache.f k t318 t321 t333 t336).bind fun t339 => (if t339 = true then ((laws_toCache.f k l1_0 l1_1).bind fun bt340 => ((laws_eqCache.f k t325 t328 bt340.1 bt340.2).bind fun t346 => (if t346 = true then (some true) else (some false)))) else (some false))) = some r := H
        have A60 := Aside0.mk A600
        clear A600
        replace H := Option.bind_eq_some_iff.mp H
        obtain ⟨t339, A610, H⟩ := H
        replace H : (if t339 = true then ((laws_toCache.f k l1_0 l1_1).bind fun bt340 => ((laws_eqCache.f k t325 t328 bt340.1 bt340.2).bind fun t346 => (if t346 = true then (some true) else (some false)))) else (some false)) = some r := H
        have A61 := Aside0.mk A610
        clear A610
        by_cases c62 : t339 = true
        · subst c62
          have H1 : ((laws_toCache.f k l1_0 l1_1).bind fun bt340 => ((laws_eqCache.f k t325 t328 bt340.1 bt340.2).bind fun t346 => (if t346 = true then (some true) else (some false)))) = some r := by rw [if_pos rfl] at H; exact H
          clear H
          have H := H1
          clear H1
          replace H := Option.bind_eq_some_iff.mp H
          obtain ⟨⟨t340, t343⟩, A630, H⟩ := H
          replace H : ((laws_eqCache.f k t325 t328 t340 t343).bind fun t346 => (if t346 = true then (some true) else (some false))) = some r := H
          have A63 := Aside0.mk A630
          clear A630
          replace H := Option.bind_eq_some_iff.mp H
          obtain ⟨t346, A640, H⟩ := H
          replace H : (if t346 = true then (some true) else (some false)) = some r := H
          have A64 := Aside0.mk A640
          clear A640
          by_cases c65 : t346 = true
          · subst c65
            have H1 : (some true) = some r := by rw [if_pos rfl] at H; exact H
            clear H
            have H := H1
            clear H1
            obtain rfl := Option.some.inj H
            go_enter Try.func9, Try.ntmps9
            try go_wp2_with (first | ((with_reducible refine gate_dst (N := 2) rfl ?_); refine box_event ?hg (N := 2) ?hd (cs := #[.slice A0_0 l0_0.length c0_0, .slice A0_1 l0_1.length c0_1]) (t := 56) ?hr ?_; (case hd => rfl); (case hg => rfl); (case hr => exact Kit.hr); intro gb301 hg w66 hbox hb; have BK301 := Aside0.mk (hbox); have GW301 := Kit.gX (w := w) hg; have GE301 := GW301; replace HB := Kit.hB hb; clear hb hbox hg) | ((with_reducible refine gate_dst (N := 3) rfl ?_); refine box_event ?hg (N := 3) ?hd (cs := #[.slice A1_0 l1_0.length c1_0, .slice A1_1 l1_1.length c1_1]) (t := 56) ?hr ?_; (case hd => rfl); (case hg => rfl); (case hr => exact Kit.hr); intro gb302 hg w67 hbox hb; have BK302 := Aside0.mk (hbox); have GW302 := Kit.gX (w := w) hg; have GE302 := GW302; replace HB := Kit.hB hb; have NB301_302 := Aside0.mk (Kit.nlt hg BK301.out); have NB302_301 := Aside0.mk (Kit.ngt hg BK301.out); replace BK301 := Kit.bB BK301 hb; clear hb hbox hg; have hnb68 := NB301_302.out; have hnc68 := NB302_301.out; obtain ⟨hcz69_0, hcz69_1, hfz69_0, hfz69_1⟩ := Kit.c2 BK301.out) | ((with_reducible refine Kit.gate_callee (f := 29) rfl ?_); refine goesL_ (some 12) rfl rfl Try.func29 (by kernel_rfl) rfl #[.agg #[.slice A0_0 l0_0.length c0_0, .slice A0_1 l0_1.length c0_1], .int .i64 1048576] rfl Kit.am ?_; (with_reducible refine (laws_szCache.calls k _ _ l0_0 _ _ l0_1 1048576 t303 _ ?side1 ?side2 ?side3 ?side4 A3.out).mono ?_); (case side1 => exact Kit.cr HR0_0.out HB.out); (case side2 => exact HC0_0.out); (case side3 => exact Kit.cr HR0_1.out HB.out); (case side4 => exact HC0_1.out); rintro e w70 ⟨rfl, hb⟩; refine ⟨_, rfl, ?_⟩; replace BK301 := Kit.bB BK301 hb; replace BK302 := Kit.bB BK302 hb; replace HB := Kit.hB hb; (try clear hb); (try clear hb2); (try clear hk); (try clear hi); obtain ⟨hcz71_0, hcz71_1, hfz71_0, hfz71_1⟩ := Kit.c2 BK302.out) | ((with_reducible refine Kit.gate_callee (f := 29) rfl ?_); refine goesL_ (some 17) rfl rfl Try.func29 (by kernel_rfl) rfl #[.agg #[.slice A1_0 l1_0.length c1_0, .slice A1_1 l1_1.length c1_1], .int .i64 t303] rfl Kit.am ?_; (with_reducible refine (laws_szCache.calls k _ _ l1_0 _ _ l1_1 t303 t304 _ ?side1 ?side2 ?side3 ?side4 A10.out).mono ?_); (case side1 => exact Kit.cr HR1_0.out HB.out); (case side2 => exact HC1_0.out); (case side3 => exact Kit.cr HR1_1.out HB.out); (case side4 => exact HC1_1.out); rintro e w72 ⟨rfl, hb⟩; refine ⟨_, rfl, ?_⟩; replace BK301 := Kit.bB BK301 hb; replace BK302 := Kit.bB BK302 hb; replace HB := Kit.hB hb; (try clear hb); (try clear hb2); (try clear hk); (try clear hi)))
            replace BK301 := Aside0.mk (blk_drew BK301.out)
            replace BK302 := Aside0.mk (blk_drew BK302.out)
            replace HB := Aside0.mk (below_drew1 HB.out)
            refine start_ (n := 6) (S := fun w' => w'.cell? ⟨gb301, 0, none⟩ = some (.slice A0_0 l0_0.length c0_0) ∧ w'.cell? ⟨gb301, 1, none⟩ = some (.slice A0_1 l0_1.length c0_1) ∧ w'.cell? ⟨gb302, 0, none⟩ = some (.slice A1_0 l1_0.length c1_0) ∧ w'.cell? ⟨gb302, 1, none⟩ = some (.slice A1_1 l1_1.length c1_1)) (ds := []) #[false, false, false, false, false, false] (by kernel_rfl) rfl rfl ⟨(blk_cell BK301.out 0).trans rfl, (blk_cell BK301.out 1).trans rfl, (blk_cell BK302.out 0).trans rfl, (blk_cell BK302.out 1).trans rfl⟩ (fun hHeld => ?_)
            generalize w72.drew = w73 at BK301 BK302 HB hHeld ⊢
            refine take_ (i := 0) (N := some 20) (v := ?_) (a' := ?_) #[true, false, false, false, false, false] rfl rfl (by kernel_rfl) (fun _ _ _ h => h) (Or.inl ⟨by rfl, ?_⟩) hHeld ?_ ?_
            rotate_left
            · rintro w' ⟨s0, s1, s2, s3⟩
              go_simp
              with_reducible rfl
            rotate_left
            · simp only [Act.put, List.setIfInBounds_toArray, List.set_cons_zero, List.set_cons_succ, i64_w, i32_w]
              rfl
            refine take_ (i := 2) (N := some 22) (v := ?_) (a' := ?_) #[true, false, true, false, false, false] rfl rfl (by kernel_rfl) (fun _ _ _ h => h) (Or.inl ⟨by rfl, ?_⟩) hHeld ?_ ?_
            rotate_left
            · rintro w' ⟨s0, s1, s2, s3⟩
              go_simp
              with_reducible rfl
            rotate_left
            · simp only [Act.put, List.setIfInBounds_toArray, List.set_cons_zero, List.set_cons_succ, i64_w, i32_w]
              rfl
            refine one_ (i := 1) (N := some 21) #[true, true, true, false, false, false] rfl rfl (by kernel_rfl) (by decide) (fun K hK => ?_)
            refine goes_ Try.func31 (by kernel_rfl) rfl #[.agg #[.slice A0_0 l0_0.length c0_0, .slice A0_1 l0_1.length c0_1]] (by rfl) rfl rfl Kit.am ?_
            with_reducible refine (laws_toCache.calls k _ _ l0_0 _ _ l0_1 t305 t308 _ ?side1 ?side2 ?side3 ?side4 A19.out).mono ?_
            (case side1 => exact Kit.cr HR0_0.out HB.out)
            (case side2 => exact HC0_0.out)
            (case side3 => exact Kit.cr HR0_1.out HB.out)
            (case side4 => exact HC0_1.out)
            rintro e w74 ⟨v306, v309, rfl, ho0, ho1, hb⟩
            refine ⟨_, rfl, ?_⟩
            have HO307 := Aside0.mk (Kd.R_lower ho0 Kit.bz)
            have HO310 := Aside0.mk (Kd.R_lower ho1 Kit.bz)
            replace BK301 := Kit.bB BK301 hb
            replace BK302 := Kit.bB BK302 hb
            replace HB := Kit.hB hb
            (try clear hb)
            (try clear hb2)
            (try clear hk)
            (try clear hi)
            (try clear ho0)
            (try clear ho1)
            refine hK.out _ _ ⟨(blk_cell BK301.out 0).trans rfl, (blk_cell BK301.out 1).trans rfl, (blk_cell BK302.out 0).trans rfl, (blk_cell BK302.out 1).trans rfl⟩ (fun hHeld => ?_)
            clear hK K
            refine norm_ (a' := ?_) ?_ ?_
            rotate_left
            · show Act.put _ (some 21) _ = _
              simp only [Act.put, List.setIfInBounds_toArray, List.set_cons_zero, List.set_cons_succ, i64_w, i32_w]
              rfl
            refine one_ (i := 3) (N := some 23) #[true, true, true, true, false, false] rfl rfl (by kernel_rfl) (by decide) (fun K hK => ?_)
            refine goes_ Try.func31 (by kernel_rfl) rfl #[.agg #[.slice A1_0 l1_0.length c1_0, .slice A1_1 l1_1.length c1_1]] (by rfl) rfl rfl Kit.am ?_
            with_reducible refine (laws_toCache.calls k _ _ l1_0 _ _ l1_1 t311 t314 _ ?side1 ?side2 ?side3 ?side4 A20.out).mono ?_
            (case side1 => exact Kit.cr HR1_0.out HB.out)
            (case side2 => exact HC1_0.out)
            (case side3 => exact Kit.cr HR1_1.out HB.out)
            (case side4 => exact HC1_1.out)
            rintro e w75 ⟨v312, v315, rfl, ho0, ho1, hb⟩
            refine ⟨_, rfl, ?_⟩
            have HO313 := Aside0.mk (Kd.R_lower (Kd.R_new' ho0 (Kd.R_lt (Kit.rx HO307.out))) Kit.bz)
            replace HO307 := Aside0.mk (Kd.R_elder' (Kit.rx HO307.out) (Kd.R_base ho0) hb)
            have HO316 := Aside0.mk (Kd.R_lower (Kd.R_new' ho1 (Kd.R_lt (Kit.rx HO310.out))) Kit.bz)
            replace HO310 := Aside0.mk (Kd.R_elder' (Kit.rx HO310.out) (Kd.R_base ho1) hb)
            replace BK301 := Kit.bB BK301 hb
            replace BK302 := Kit.bB BK302 hb
            replace HB := Kit.hB hb
            (try clear hb)
            (try clear hb2)
            (try clear hk)
            (try clear hi)
            (try clear ho0)
            (try clear ho1)
            obtain ⟨Ao76, co76, eo76⟩ := Kd.R_slice HO307.out
            (first | subst eo76 | (injection eo76 with f1_ f2_ f3_; have f4_ := f1_.symm; have f5_ := f3_.symm; clear f1_ f2_ f3_; subst f4_; subst f5_))
            obtain ⟨Ao77, co77, eo77⟩ := Kd.R_slice HO310.out
            (first | subst eo77 | (injection eo77 with f1_ f2_ f3_; have f4_ := f1_.symm; have f5_ := f3_.symm; clear f1_ f2_ f3_; subst f4_; subst f5_))
            obtain ⟨Ao78, co78, eo78⟩ := Kd.R_slice HO313.out
            (first | subst eo78 | (injection eo78 with f1_ f2_ f3_; have f4_ := f1_.symm; have f5_ := f3_.symm; clear f1_ f2_ f3_; subst f4_; subst f5_))
            obtain ⟨Ao79, co79, eo79⟩ := Kd.R_slice HO316.out
            (first | subst eo79 | (injection eo79 with f1_ f2_ f3_; have f4_ := f1_.symm; have f5_ := f3_.symm; clear f1_ f2_ f3_; subst f4_; subst f5_))
            refine hK.out _ _ ⟨(blk_cell BK301.out 0).trans rfl, (blk_cell BK301.out 1).trans rfl, (blk_cell BK302.out 0).trans rfl, (blk_cell BK302.out 1).trans rfl⟩ (fun hHeld => ?_)
            clear hK K
            refine norm_ (a' := ?_) ?_ ?_
            rotate_left
            · show Act.put _ (some 23) _ = _
              simp only [Act.put, List.setIfInBounds_toArray, List.set_cons_zero, List.set_cons_succ, i64_w, i32_w]
              rfl
            refine one_ (i := 4) (N := some 24) #[true, true, true, true, true, false] rfl rfl (by kernel_rfl) (by decide) (fun K hK => ?_)
            refine goes_ Try.func40 (by kernel_rfl) rfl #[.agg #[.slice Ao76 t305.length co76, .slice Ao77 t308.length co77], .agg #[.slice Ao78 t311.length co78, .slice Ao79 t314.length co79]] (by rfl) rfl rfl Kit.am ?_
            with_reducible refine (spec_SameCache.calls k _ _ t305 _ _ t308 _ _ t311 _ _ t314 t317 _ ?side1 ?side2 ?side3 ?side4 ?side5 ?side6 ?side7 ?side8 A21.out).mono ?_
            (case side1 => exact Kit.cx ((Kd.R_reads' HO307.out).2.2))
            (case side2 => exact (Kd.R_reads' HO307.out).2.1)
            (case side3 => exact Kit.cx ((Kd.R_reads' HO310.out).2.2))
            (case side4 => exact (Kd.R_reads' HO310.out).2.1)
            (case side5 => exact Kit.cx ((Kd.R_reads' HO313.out).2.2))
            (case side6 => exact (Kd.R_reads' HO313.out).2.1)
            (case side7 => exact Kit.cx ((Kd.R_reads' HO316.out).2.2))
            (case side8 => exact (Kd.R_reads' HO316.out).2.1)
            rintro e w80 ⟨rfl, hb⟩
            refine ⟨_, rfl, ?_⟩
            replace HO307 := Aside0.mk (Kd.R_below (Kit.rx HO307.out) hb)
            replace HO310 := Aside0.mk (Kd.R_below (Kit.rx HO310.out) hb)
            replace HO313 := Aside0.mk (Kd.R_below (Kit.rx HO313.out) hb)
            replace HO316 := Aside0.mk (Kd.R_below (Kit.rx HO316.out) hb)
            replace BK301 := Kit.bB BK301 hb
            replace BK302 := Kit.bB BK302 hb
            replace HB := Kit.hB hb
            (try clear hb)
            (try clear hb2)
            (try clear hk)
            (try clear hi)
            refine hK.out _ _ ⟨(blk_cell BK301.out 0).trans rfl, (blk_cell BK301.out 1).trans rfl, (blk_cell BK302.out 0).trans rfl, (blk_cell BK302.out 1).trans rfl⟩ (fun hHeld => ?_)
            clear hK K
            refine norm_ (a' := ?_) ?_ ?_
            rotate_left
            · show Act.put _ (some 24) _ = _
              simp only [Act.put, List.setIfInBounds_toArray, List.set_cons_zero, List.set_cons_succ, i64_w, i32_w]
              rfl
            refine pure_ (i := 5) (N := some 6) (v := ?_) (a' := ?_) #[true, true, true, true, true, true] rfl rfl (by kernel_rfl) (fun _ _ _ h => h) (Or.inl ⟨by rfl, ?_⟩) ?_ ?_
            rotate_left
            · intro w'
              go_simp
              with_reducible rfl
            rotate_left
            · simp only [Act.put, List.setIfInBounds_toArray, List.set_cons_zero, List.set_cons_succ, i64_w, i32_w]
              rfl
            refine done_ (by kernel_rfl) ?_
            obtain ⟨hcz81_0, hcz81_1, hfz81_0, hfz81_1⟩ := Kit.c2 BK301.out
            try go_wp2_with (first | ((with_reducible refine Kit.gate_callee (f := 31) rfl ?_); refine goesL_ (some 26) rfl rfl Try.func31 (by kernel_rfl) rfl #[.agg #[.slice A0_0 l0_0.length c0_0, .slice A0_1 l0_1.length c0_1]] rfl Kit.am ?_; (with_reducible refine (laws_toCache.calls k _ _ l0_0 _ _ l0_1 t318 t321 _ ?side1 ?side2 ?side3 ?side4 A22.out).mono ?_); (case side1 => exact Kit.cr HR0_0.out HB.out); (case side2 => exact HC0_0.out); (case side3 => exact Kit.cr HR0_1.out HB.out); (case side4 => exact HC0_1.out); rintro e w82 ⟨v319, v322, rfl, ho0, ho1, hb⟩; refine ⟨_, rfl, ?_⟩; have one_v319 : (v319 : Value).oneCell' = true := Kit.ov0; have one_v322 : (v322 : Value).oneCell' = true := Kit.ov1; have HO320 := Aside0.mk (Kd.R_lower (Kd.R_new' (Kd.R_new' ho0 (Kd.R_lt (Kit.rx HO307.out))) (Kd.R_lt (Kit.rx HO313.out))) Kit.bz); replace HO307 := Aside0.mk (Kd.R_elder' (Kit.rx HO307.out) (Kd.R_base ho0) hb); replace HO313 := Aside0.mk (Kd.R_elder' (Kit.rx HO313.out) (Kd.R_base ho0) hb); have HO323 := Aside0.mk (Kd.R_lower (Kd.R_new' (Kd.R_new' ho1 (Kd.R_lt (Kit.rx HO310.out))) (Kd.R_lt (Kit.rx HO316.out))) Kit.bz); replace HO310 := Aside0.mk (Kd.R_elder' (Kit.rx HO310.out) (Kd.R_base ho1) hb); replace HO316 := Aside0.mk (Kd.R_elder' (Kit.rx HO316.out) (Kd.R_base ho1) hb); replace BK301 := Kit.bB BK301 hb; replace BK302 := Kit.bB BK302 hb; replace HB := Kit.hB hb; (try clear hb); (try clear hb2); (try clear hk); (try clear hi); (try clear ho0); (try clear ho1)) | ((with_reducible refine gate_dst (N := 7) rfl ?_); refine box_event ?hg (N := 7) ?hd (cs := #[.slice none 0 0, .slice none 0 0]) (t := 62) ?hr ?_; (case hd => rfl); (case hg => rfl); (case hr => exact Kit.hr); intro gb324 hg w83 hbox hb; replace HO307 := Aside0.mk (Kd.R_below (Kit.rx HO307.out) hb); replace HO310 := Aside0.mk (Kd.R_below (Kit.rx HO310.out) hb); replace HO313 := Aside0.mk (Kd.R_below (Kit.rx HO313.out) hb); replace HO316 := Aside0.mk (Kd.R_below (Kit.rx HO316.out) hb); replace HO320 := Aside0.mk (Kd.R_below (Kit.rx HO320.out) hb); replace HO323 := Aside0.mk (Kd.R_below (Kit.rx HO323.out) hb); have BK324 := Aside0.mk (hbox); have GW324 := Kit.gX (w := w) hg; have GE324 := GW324; replace HB := Kit.hB hb; have NB301_324 := Aside0.mk (Kit.nlt hg BK301.out); have NB324_301 := Aside0.mk (Kit.ngt hg BK301.out); replace BK301 := Kit.bB BK301 hb; have NB302_324 := Aside0.mk (Kit.nlt hg BK302.out); have NB324_302 := Aside0.mk (Kit.ngt hg BK302.out); replace BK302 := Kit.bB BK302 hb; clear hb hbox hg; obtain ⟨Ao84, co84, eo84⟩ := Kd.R_slice HO320.out; subst eo84; have hnb85 := NB324_301.out; have hnc85 := NB301_324.out; have hnb86 := NB324_302.out; have hnc86 := NB302_324.out; obtain ⟨hcz87_0, hcz87_1, hfz87_0, hfz87_1⟩ := Kit.c2 BK324.out; obtain ⟨Ao88, co88, eo88⟩ := Kd.R_slice HO323.out; subst eo88; obtain ⟨hcz89_0, hcz89_1, hfz89_0, hfz89_1⟩ := Kit.c2 BK302.out) | ((with_reducible refine Kit.gate_callee (f := 31) rfl ?_); refine goesL_ (some 28) rfl rfl Try.func31 (by kernel_rfl) rfl #[.agg #[.slice A1_0 l1_0.length c1_0, .slice A1_1 l1_1.length c1_1]] rfl Kit.am ?_; (with_reducible refine (laws_toCache.calls k _ _ l1_0 _ _ l1_1 t325 t328 _ ?side1 ?side2 ?side3 ?side4 A23.out).mono ?_); (case side1 => exact Kd.C_below HR1_0.out Kit.bl); (case side2 => exact HC1_0.out); (case side3 => exact Kd.C_below HR1_1.out Kit.bl); (case side4 => exact HC1_1.out); rintro e w90 ⟨v326, v329, rfl, ho0, ho1, hb⟩; refine ⟨_, rfl, ?_⟩; have one_v326 : (v326 : Value).oneCell' = true := Kit.ov0; have one_v329 : (v329 : Value).oneCell' = true := Kit.ov1; have n0_ := Aside0.mk (Kd.R_elder' (Kit.rf HO307.out BK324.out) (Kd.R_base ho0) hb); have n1_ := Aside0.mk (Kd.R_elder' (Kit.rf HO310.out BK324.out) (Kd.R_base ho1) hb); have n2_ := Aside0.mk (Kd.R_elder' (Kit.rf HO313.out BK324.out) (Kd.R_base ho0) hb); have n3_ := Aside0.mk (Kd.R_elder' (Kit.rf HO316.out BK324.out) (Kd.R_base ho1) hb); have n4_ := Aside0.mk (Kd.R_elder' (Kit.rf HO320.out BK324.out) (Kd.R_base ho0) hb); have n5_ := Aside0.mk (Kd.R_elder' (Kit.rf HO323.out BK324.out) (Kd.R_base ho1) hb); have n6_ := Aside0.mk (Kd.R_lower (Kd.R_new' (Kd.R_new' (Kd.R_new' ho0 (Kd.R_lt (Kit.rf HO307.out BK324.out))) (Kd.R_lt (Kit.rf HO313.out BK324.out))) (Kd.R_lt (Kit.rf HO320.out BK324.out))) Kit.bz); have n7_ := Aside0.mk (Kd.R_lower (Kd.R_new' (Kd.R_new' (Kd.R_new' ho1 (Kd.R_lt (Kit.rf HO310.out BK324.out))) (Kd.R_lt (Kit.rf HO316.out BK324.out))) (Kd.R_lt (Kit.rf HO323.out BK324.out))) Kit.bz); have n8_ := Aside0.mk (Kit.bf BK301.out hb); have n9_ := Aside0.mk (Kit.bf BK302.out hb); have n10_ := Aside0.mk (blk_below (g := gb324) (o := .cells #[.slice Ao84 t318.length co84, .slice Ao88 t321.length co88] 62 (0, 0)) (by (with_reducible repeat (first | refine blk_drewN ?_ _ | refine blk_drew ?_ | refine blk_alloc ?_ _)); refine blk_put (cs := #[.slice Ao84 t318.length co84, .slice none 0 0]) ?_ 1 _ rfl; (with_reducible repeat (first | refine blk_drewN ?_ _ | refine blk_drew ?_ | refine blk_alloc ?_ _)); refine blk_put (cs := #[.slice none 0 0, .slice none 0 0]) ?_ 0 _ rfl; (with_reducible repeat (first | refine blk_drewN ?_ _ | refine blk_drew ?_ | refine blk_alloc ?_ _)); exact BK324.out) hb); have n11_ := Kit.hB hb; clear HO307; clear HO310; clear HO313; clear HO316; clear HO320; clear HO323; clear BK301; clear BK302; clear BK324; clear HB; have HO307 := n0_; have HO310 := n1_; have HO313 := n2_; have HO316 := n3_; have HO320 := n4_; have HO323 := n5_; have HO327 := n6_; have HO330 := n7_; have BK301 := n8_; have BK302 := n9_; have BK324 := n10_; have HB := n11_; clear n0_ n1_ n2_ n3_ n4_ n5_ n6_ n7_ n8_ n9_ n10_ n11_; (try clear hb); (try clear hb2); (try clear hk); (try clear hi); (try clear ho0); (try clear ho1)) | ((with_reducible refine gate_dst (N := 8) rfl ?_); refine box_event ?hg (N := 8) ?hd (cs := #[.slice none 0 0, .slice none 0 0]) (t := 62) ?hr ?_; (case hd => rfl); (case hg => rfl); (case hr => exact Kit.hr); intro gb331 hg w91 hbox hb; replace HO307 := Aside0.mk (Kd.R_below (Kit.rx HO307.out) hb); replace HO310 := Aside0.mk (Kd.R_below (Kit.rx HO310.out) hb); replace HO313 := Aside0.mk (Kd.R_below (Kit.rx HO313.out) hb); replace HO316 := Aside0.mk (Kd.R_below (Kit.rx HO316.out) hb); replace HO320 := Aside0.mk (Kd.R_below (Kit.rx HO320.out) hb); replace HO323 := Aside0.mk (Kd.R_below (Kit.rx HO323.out) hb); replace HO327 := Aside0.mk (Kd.R_below (Kit.rx HO327.out) hb); replace HO330 := Aside0.mk (Kd.R_below (Kit.rx HO330.out) hb); have BK331 := Aside0.mk (hbox); have GW331 := Kit.gX (w := w) hg; have GE331 := GW331; replace HB := Kit.hB hb; have NB301_331 := Aside0.mk (Kit.nlt hg BK301.out); have NB331_301 := Aside0.mk (Kit.ngt hg BK301.out); replace BK301 := Kit.bB BK301 hb; have NB302_331 := Aside0.mk (Kit.nlt hg BK302.out); have NB331_302 := Aside0.mk (Kit.ngt hg BK302.out); replace BK302 := Kit.bB BK302 hb; have NB324_331 := Aside0.mk (Kit.nlt hg BK324.out); have NB331_324 := Aside0.mk (Kit.ngt hg BK324.out); replace BK324 := Kit.bB BK324 hb; clear hb hbox hg; obtain ⟨Ao92, co92, eo92⟩ := Kd.R_slice HO327.out; subst eo92; have hnb93 := NB331_301.out; have hnc93 := NB301_331.out; have hnb94 := NB331_302.out; have hnc94 := NB302_331.out; have hnb95 := NB331_324.out; have hnc95 := NB324_331.out; obtain ⟨hcz96_0, hcz96_1, hfz96_0, hfz96_1⟩ := Kit.c2 BK331.out; obtain ⟨Ao97, co97, eo97⟩ := Kd.R_slice HO330.out; subst eo97; obtain ⟨hcz98_0, hcz98_1, hfz98_0, hfz98_1⟩ := Kit.c2 BK324.out) | ((with_reducible refine Kit.gate_callee (f := 41) rfl ?_); refine goesL_ (some 31) rfl rfl Try.func41 (by kernel_rfl) rfl #[.agg #[.slice Ao84 t318.length co84, .slice Ao88 t321.length co88], .agg #[.slice Ao92 t325.length co92, .slice Ao97 t328.length co97]] rfl Kit.am ?_; (with_reducible refine (impl_SameCache.calls k _ _ t318 _ _ t321 _ _ t325 _ _ t328 t332 _ ?side1 ?side2 ?side3 ?side4 ?side5 ?side6 ?side7 ?side8 A24.out).mono ?_); (case side1 => refine (Kd.R_reads' (e := 97) (base := w.heap.size) (ok := fun k_ => (((True ∧ some k_ ≠ (.slice Ao76 t305.length co76 : Value).ownBlock) ∧ some k_ ≠ (.slice Ao78 t311.length co78 : Value).ownBlock) ∧ some k_ ≠ (.slice Ao92 t325.length co92 : Value).ownBlock)) (n := t318.length) (c := co84) ?_).2.2; exact (Kit.rf HO320.out BK331.out)); (case side2 => exact (Kd.R_reads' HO320.out).2.1); (case side3 => refine (Kd.R_reads' (e := 89) (base := w.heap.size) (ok := fun k_ => (((True ∧ some k_ ≠ (.slice Ao77 t308.length co77 : Value).ownBlock) ∧ some k_ ≠ (.slice Ao79 t314.length co79 : Value).ownBlock) ∧ some k_ ≠ (.slice Ao97 t328.length co97 : Value).ownBlock)) (n := t321.length) (c := co88) ?_).2.2; exact (Kit.rf HO323.out BK331.out)); (case side4 => exact (Kd.R_reads' HO323.out).2.1); (case side5 => refine (Kd.R_reads' (e := 97) (base := w.heap.size) (ok := fun k_ => (((True ∧ some k_ ≠ (.slice Ao76 t305.length co76 : Value).ownBlock) ∧ some k_ ≠ (.slice Ao78 t311.length co78 : Value).ownBlock) ∧ some k_ ≠ (.slice Ao84 t318.length co84 : Value).ownBlock)) (n := t325.length) (c := co92) ?_).2.2; exact (Kit.rf HO327.out BK331.out)); (case side6 => exact (Kd.R_reads' HO327.out).2.1); (case side7 => refine (Kd.R_reads' (e := 89) (base := w.heap.size) (ok := fun k_ => (((True ∧ some k_ ≠ (.slice Ao77 t308.length co77 : Value).ownBlock) ∧ some k_ ≠ (.slice Ao79 t314.length co79 : Value).ownBlock) ∧ some k_ ≠ (.slice Ao88 t321.length co88 : Value).ownBlock)) (n := t328.length) (c := co97) ?_).2.2; exact (Kit.rf HO330.out BK331.out)); (case side8 => exact (Kd.R_reads' HO330.out).2.1); rintro e w99 ⟨rfl, hb⟩; refine ⟨_, rfl, ?_⟩; have n0_ := Aside0.mk (Kd.R_below (Kit.rf HO307.out BK331.out) hb); have n1_ := Aside0.mk (Kd.R_below (Kit.rf HO310.out BK331.out) hb); have n2_ := Aside0.mk (Kd.R_below (Kit.rf HO313.out BK331.out) hb); have n3_ := Aside0.mk (Kd.R_below (Kit.rf HO316.out BK331.out) hb); have n4_ := Aside0.mk (Kd.R_below (Kit.rf HO320.out BK331.out) hb); have n5_ := Aside0.mk (Kd.R_below (Kit.rf HO323.out BK331.out) hb); have n6_ := Aside0.mk (Kd.R_below (Kit.rf HO327.out BK331.out) hb); have n7_ := Aside0.mk (Kd.R_below (Kit.rf HO330.out BK331.out) hb); have n8_ := Aside0.mk (Kit.bf BK301.out hb); have n9_ := Aside0.mk (Kit.bf BK302.out hb); have n10_ := Aside0.mk (Kit.bf BK324.out hb); have n11_ := Aside0.mk (blk_below (g := gb331) (o := .cells #[.slice Ao92 t325.length co92, .slice Ao97 t328.length co97] 62 (0, 0)) (by (with_reducible repeat (first | refine blk_drewN ?_ _ | refine blk_drew ?_ | refine blk_alloc ?_ _)); refine blk_put (cs := #[.slice Ao92 t325.length co92, .slice none 0 0]) ?_ 1 _ rfl; (with_reducible repeat (first | refine blk_drewN ?_ _ | refine blk_drew ?_ | refine blk_alloc ?_ _)); refine blk_put (cs := #[.slice none 0 0, .slice none 0 0]) ?_ 0 _ rfl; (with_reducible repeat (first | refine blk_drewN ?_ _ | refine blk_drew ?_ | refine blk_alloc ?_ _)); exact BK331.out) hb); have n12_ := Kit.hB hb; clear HO307; clear HO310; clear HO313; clear HO316; clear HO320; clear HO323; clear HO327; clear HO330; clear BK301; clear BK302; clear BK324; clear BK331; clear HB; have HO307 := n0_; have HO310 := n1_; have HO313 := n2_; have HO316 := n3_; have HO320 := n4_; have HO323 := n5_; have HO327 := n6_; have HO330 := n7_; have BK301 := n8_; have BK302 := n9_; have BK324 := n10_; have BK331 := n11_; have HB := n12_; clear n0_ n1_ n2_ n3_ n4_ n5_ n6_ n7_ n8_ n9_ n10_ n11_ n12_; (try clear hb); (try clear hb2); (try clear hk); (try clear hi)))
            have n0_ := Aside0.mk (Kd.R_drew HO307.out)
            have n1_ := Aside0.mk (Kd.R_drew HO310.out)
            have n2_ := Aside0.mk (Kd.R_drew HO313.out)
            have n3_ := Aside0.mk (Kd.R_drew HO316.out)
            have n4_ := Aside0.mk (Kd.R_drew HO320.out)
            have n5_ := Aside0.mk (Kd.R_drew HO323.out)
            have n6_ := Aside0.mk (Kd.R_drew HO327.out)
            have n7_ := Aside0.mk (Kd.R_drew HO330.out)
            have n8_ := Aside0.mk (blk_drew BK301.out)
            have n9_ := Aside0.mk (blk_drew BK302.out)
            have n10_ := Aside0.mk (blk_drew BK324.out)
            have n11_ := Aside0.mk (blk_drew BK331.out)
            have n12_ := Aside0.mk (below_drew1 HB.out)
            clear HO307
            clear HO310
            clear HO313
            clear HO316
            clear HO320
            clear HO323
            clear HO327
            clear HO330
            clear BK301
            clear BK302
            clear BK324
            clear BK331
            clear HB
            have HO307 := n0_
            have HO310 := n1_
            have HO313 := n2_
            have HO316 := n3_
            have HO320 := n4_
            have HO323 := n5_
            have HO327 := n6_
            have HO330 := n7_
            have BK301 := n8_
            have BK302 := n9_
            have BK324 := n10_
            have BK331 := n11_
            have HB := n12_
            clear n0_ n1_ n2_ n3_ n4_ n5_ n6_ n7_ n8_ n9_ n10_ n11_ n12_
            refine start_ (n := 5) (S := fun w' => w'.cell? ⟨gb324, 0, none⟩ = some (.slice Ao84 t318.length co84) ∧ w'.cell? ⟨gb324, 1, none⟩ = some (.slice Ao88 t321.length co88) ∧ w'.cell? ⟨gb301, 0, none⟩ = some (.slice A0_0 l0_0.length c0_0) ∧ w'.cell? ⟨gb301, 1, none⟩ = some (.slice A0_1 l0_1.length c0_1)) (ds := []) #[false, false, false, false, false] (by kernel_rfl) rfl rfl ⟨(blk_cell BK324.out 0).trans rfl, (blk_cell BK324.out 1).trans rfl, (blk_cell BK301.out 0).trans rfl, (blk_cell BK301.out 1).trans rfl⟩ (fun hHeld => ?_)
            generalize w99.drew = w100 at HO307 HO310 HO313 HO316 HO320 HO323 HO327 HO330 BK301 BK302 BK324 BK331 HB hHeld ⊢
            refine take_ (i := 0) (N := some 35) (v := ?_) (a' := ?_) #[true, false, false, false, false] rfl rfl (by kernel_rfl) (fun _ _ _ h => h) (Or.inl ⟨by rfl, ?_⟩) hHeld ?_ ?_
            rotate_left
            · rintro w' ⟨s0, s1, s2, s3⟩
              go_simp
              with_reducible rfl
            rotate_left
            · simp only [Act.put, List.setIfInBounds_toArray, List.set_cons_zero, List.set_cons_succ, i64_w, i32_w]
              rfl
            refine take_ (i := 1) (N := some 36) (v := ?_) (a' := ?_) #[true, true, false, false, false] rfl rfl (by kernel_rfl) (fun _ _ _ h => h) (Or.inl ⟨by rfl, ?_⟩) hHeld ?_ ?_
            rotate_left
            · rintro w' ⟨s0, s1, s2, s3⟩
              go_simp
              with_reducible rfl
            rotate_left
            · simp only [Act.put, List.setIfInBounds_toArray, List.set_cons_zero, List.set_cons_succ, i64_w, i32_w]
              rfl
            refine one_ (i := 2) (N := some 37) #[true, true, true, false, false] rfl rfl (by kernel_rfl) (by decide) (fun K hK => ?_)
            refine goes_ Try.func31 (by kernel_rfl) rfl #[.agg #[.slice A0_0 l0_0.length c0_0, .slice A0_1 l0_1.length c0_1]] (by rfl) rfl rfl Kit.am ?_
            with_reducible refine (laws_toCache.calls k _ _ l0_0 _ _ l0_1 t333 t336 _ ?side1 ?side2 ?side3 ?side4 A60.out).mono ?_
            (case side1 => exact Kit.cr HR0_0.out HB.out)
            (case side2 => exact HC0_0.out)
            (case side3 => exact Kit.cr HR0_1.out HB.out)
            (case side4 => exact HC0_1.out)
            rintro e w101 ⟨v334, v337, rfl, ho0, ho1, hb⟩
            refine ⟨_, rfl, ?_⟩
            have HO335 := Aside0.mk (Kd.R_lower (Kd.R_new' (Kd.R_new' (Kd.R_new' (Kd.R_new' ho0 (Kd.R_lt (Kit.rx HO307.out))) (Kd.R_lt (Kit.rx HO313.out))) (Kd.R_lt (Kit.rx HO320.out))) (Kd.R_lt (Kit.rx HO327.out))) Kit.bz)
            replace HO307 := Aside0.mk (Kd.R_elder' (Kit.rx HO307.out) (Kd.R_base ho0) hb)
            replace HO313 := Aside0.mk (Kd.R_elder' (Kit.rx HO313.out) (Kd.R_base ho0) hb)
            replace HO320 := Aside0.mk (Kd.R_elder' (Kit.rx HO320.out) (Kd.R_base ho0) hb)
            replace HO327 := Aside0.mk (Kd.R_elder' (Kit.rx HO327.out) (Kd.R_base ho0) hb)
            have HO338 := Aside0.mk (Kd.R_lower (Kd.R_new' (Kd.R_new' (Kd.R_new' (Kd.R_new' ho1 (Kd.R_lt (Kit.rx HO310.out))) (Kd.R_lt (Kit.rx HO316.out))) (Kd.R_lt (Kit.rx HO323.out))) (Kd.R_lt (Kit.rx HO330.out))) Kit.bz)
            replace HO310 := Aside0.mk (Kd.R_elder' (Kit.rx HO310.out) (Kd.R_base ho1) hb)
            replace HO316 := Aside0.mk (Kd.R_elder' (Kit.rx HO316.out) (Kd.R_base ho1) hb)
            replace HO323 := Aside0.mk (Kd.R_elder' (Kit.rx HO323.out) (Kd.R_base ho1) hb)
            replace HO330 := Aside0.mk (Kd.R_elder' (Kit.rx HO330.out) (Kd.R_base ho1) hb)
            replace BK301 := Kit.bB BK301 hb
            replace BK302 := Kit.bB BK302 hb
            replace BK324 := Kit.bB BK324 hb
            replace BK331 := Kit.bB BK331 hb
            replace HB := Kit.hB hb
            (try clear hb)
            (try clear hb2)
            (try clear hk)
            (try clear hi)
            (try clear ho0)
            (try clear ho1)
            obtain ⟨Ao102, co102, eo102⟩ := Kd.R_slice HO335.out
            (first | subst eo102 | (injection eo102 with f1_ f2_ f3_; have f4_ := f1_.symm; have f5_ := f3_.symm; clear f1_ f2_ f3_; subst f4_; subst f5_))
            obtain ⟨Ao103, co103, eo103⟩ := Kd.R_slice HO338.out
            (first | subst eo103 | (injection eo103 with f1_ f2_ f3_; have f4_ := f1_.symm; have f5_ := f3_.symm; clear f1_ f2_ f3_; subst f4_; subst f5_))
            refine hK.out _ _ ⟨(blk_cell BK324.out 0).trans rfl, (blk_cell BK324.out 1).trans rfl, (blk_cell BK301.out 0).trans rfl, (blk_cell BK301.out 1).trans rfl⟩ (fun hHeld => ?_)
            clear hK K
            refine norm_ (a' := ?_) ?_ ?_
            rotate_left
            · show Act.put _ (some 37) _ = _
              simp only [Act.put, List.setIfInBounds_toArray, List.set_cons_zero, List.set_cons_succ, i64_w, i32_w]
              rfl
            refine one_ (i := 3) (N := some 38) #[true, true, true, true, false] rfl rfl (by kernel_rfl) (by decide) (fun K hK => ?_)
            refine goes_ Try.func33 (by kernel_rfl) rfl #[.agg #[.slice Ao84 t318.length co84, .slice Ao88 t321.length co88], .agg #[.slice Ao102 t333.length co102, .slice Ao103 t336.length co103]] (by rfl) rfl rfl Kit.am ?_
            with_reducible refine (laws_eqCache.calls k _ _ t318 _ _ t321 _ _ t333 _ _ t336 true _ ?side1 ?side2 ?side3 ?side4 ?side5 ?side6 ?side7 ?side8 A61.out).mono ?_
            (case side1 => exact Kit.cx ((Kd.R_reads' HO320.out).2.2))
            (case side2 => exact (Kd.R_reads' HO320.out).2.1)
            (case side3 => exact Kit.cx ((Kd.R_reads' HO323.out).2.2))
            (case side4 => exact (Kd.R_reads' HO323.out).2.1)
            (case side5 => exact Kit.cx ((Kd.R_reads' HO335.out).2.2))
            (case side6 => exact (Kd.R_reads' HO335.out).2.1)
            (case side7 => exact Kit.cx ((Kd.R_reads' HO338.out).2.2))
            (case side8 => exact (Kd.R_reads' HO338.out).2.1)
            rintro e w104 ⟨rfl, hb⟩
            refine ⟨_, rfl, ?_⟩
            replace HO307 := Aside0.mk (Kd.R_below (Kit.rx HO307.out) hb)
            replace HO310 := Aside0.mk (Kd.R_below (Kit.rx HO310.out) hb)
            replace HO313 := Aside0.mk (Kd.R_below (Kit.rx HO313.out) hb)
            replace HO316 := Aside0.mk (Kd.R_below (Kit.rx HO316.out) hb)
            replace HO320 := Aside0.mk (Kd.R_below (Kit.rx HO320.out) hb)
            replace HO323 := Aside0.mk (Kd.R_below (Kit.rx HO323.out) hb)
            replace HO327 := Aside0.mk (Kd.R_below (Kit.rx HO327.out) hb)
            replace HO330 := Aside0.mk (Kd.R_below (Kit.rx HO330.out) hb)
            replace HO335 := Aside0.mk (Kd.R_below (Kit.rx HO335.out) hb)
            replace HO338 := Aside0.mk (Kd.R_below (Kit.rx HO338.out) hb)
            replace BK301 := Kit.bB BK301 hb
            replace BK302 := Kit.bB BK302 hb
            replace BK324 := Kit.bB BK324 hb
            replace BK331 := Kit.bB BK331 hb
            replace HB := Kit.hB hb
            (try clear hb)
            (try clear hb2)
            (try clear hk)
            (try clear hi)
            refine hK.out _ _ ⟨(blk_cell BK324.out 0).trans rfl, (blk_cell BK324.out 1).trans rfl, (blk_cell BK301.out 0).trans rfl, (blk_cell BK301.out 1).trans rfl⟩ (fun hHeld => ?_)
            clear hK K
            refine norm_ (a' := ?_) ?_ ?_
            rotate_left
            · show Act.put _ (some 38) _ = _
              simp only [Act.put, List.setIfInBounds_toArray, List.set_cons_zero, List.set_cons_succ, i64_w, i32_w]
              rfl
            refine pure_ (i := 4) (N := some 39) (v := ?_) (a' := ?_) #[true, true, true, true, true] rfl rfl (by kernel_rfl) (fun _ _ _ h => h) (Or.inl ⟨by rfl, ?_⟩) ?_ ?_
            rotate_left
            · intro w'
              go_simp
              with_reducible rfl
            rotate_left
            · simp only [Act.put, List.setIfInBounds_toArray, List.set_cons_zero, List.set_cons_succ, i64_w, i32_w]
              rfl
            refine done_ (by kernel_rfl) ?_
            try go_wp2
            replace HO307 := Aside0.mk (Kd.R_drew HO307.out)
            replace HO310 := Aside0.mk (Kd.R_drew HO310.out)
            replace HO313 := Aside0.mk (Kd.R_drew HO313.out)
            replace HO316 := Aside0.mk (Kd.R_drew HO316.out)
            replace HO320 := Aside0.mk (Kd.R_drew HO320.out)
            replace HO323 := Aside0.mk (Kd.R_drew HO323.out)
            replace HO327 := Aside0.mk (Kd.R_drew HO327.out)
            replace HO330 := Aside0.mk (Kd.R_drew HO330.out)
            replace HO335 := Aside0.mk (Kd.R_drew HO335.out)
            replace HO338 := Aside0.mk (Kd.R_drew HO338.out)
            replace BK301 := Aside0.mk (blk_drew BK301.out)
            replace BK302 := Aside0.mk (blk_drew BK302.out)
            replace BK324 := Aside0.mk (blk_drew BK324.out)
            replace BK331 := Aside0.mk (blk_drew BK331.out)
            replace HB := Aside0.mk (below_drew1 HB.out)
            refine start_ (n := 5) (S := fun w' => w'.cell? ⟨gb331, 0, none⟩ = some (.slice Ao92 t325.length co92) ∧ w'.cell? ⟨gb331, 1, none⟩ = some (.slice Ao97 t328.length co97) ∧ w'.cell? ⟨gb302, 0, none⟩ = some (.slice A1_0 l1_0.length c1_0) ∧ w'.cell? ⟨gb302, 1, none⟩ = some (.slice A1_1 l1_1.length c1_1)) (ds := []) #[false, false, false, false, false] (by kernel_rfl) rfl rfl ⟨(blk_cell BK331.out 0).trans rfl, (blk_cell BK331.out 1).trans rfl, (blk_cell BK302.out 0).trans rfl, (blk_cell BK302.out 1).trans rfl⟩ (fun hHeld => ?_)
            generalize w104.drew = w105 at HO307 HO310 HO313 HO316 HO320 HO323 HO327 HO330 HO335 HO338 BK301 BK302 BK324 BK331 HB hHeld ⊢
            refine take_ (i := 0) (N := some 40) (v := ?_) (a' := ?_) #[true, false, false, false, false] rfl rfl (by kernel_rfl) (fun _ _ _ h => h) (Or.inl ⟨by rfl, ?_⟩) hHeld ?_ ?_
            rotate_left
            · rintro w' ⟨s0, s1, s2, s3⟩
              go_simp
              with_reducible rfl
            rotate_left
            · simp only [Act.put, List.setIfInBounds_toArray, List.set_cons_zero, List.set_cons_succ, i64_w, i32_w]
              rfl
            refine take_ (i := 1) (N := some 41) (v := ?_) (a' := ?_) #[true, true, false, false, false] rfl rfl (by kernel_rfl) (fun _ _ _ h => h) (Or.inl ⟨by rfl, ?_⟩) hHeld ?_ ?_
            rotate_left
            · rintro w' ⟨s0, s1, s2, s3⟩
              go_simp
              with_reducible rfl
            rotate_left
            · simp only [Act.put, List.setIfInBounds_toArray, List.set_cons_zero, List.set_cons_succ, i64_w, i32_w]
              rfl
            refine one_ (i := 2) (N := some 42) #[true, true, true, false, false] rfl rfl (by kernel_rfl) (by decide) (fun K hK => ?_)
            refine goes_ Try.func31 (by kernel_rfl) rfl #[.agg #[.slice A1_0 l1_0.length c1_0, .slice A1_1 l1_1.length c1_1]] (by rfl) rfl rfl Kit.am ?_
            with_reducible refine (laws_toCache.calls k _ _ l1_0 _ _ l1_1 t340 t343 _ ?side1 ?side2 ?side3 ?side4 A63.out).mono ?_
            (case side1 => exact Kit.cr HR1_0.out HB.out)
            (case side2 => exact HC1_0.out)
            (case side3 => exact Kit.cr HR1_1.out HB.out)
            (case side4 => exact HC1_1.out)
            rintro e w106 ⟨v341, v344, rfl, ho0, ho1, hb⟩
            refine ⟨_, rfl, ?_⟩
            have HO342 := Aside0.mk (Kd.R_lower (Kd.R_new' (Kd.R_new' (Kd.R_new' (Kd.R_new' (Kd.R_new' ho0 (Kd.R_lt (Kit.rx HO307.out))) (Kd.R_lt (Kit.rx HO313.out))) (Kd.R_lt (Kit.rx HO320.out))) (Kd.R_lt (Kit.rx HO327.out))) (Kd.R_lt (Kit.rx HO335.out))) Kit.bz)
            replace HO307 := Aside0.mk (Kd.R_elder' (Kit.rx HO307.out) (Kd.R_base ho0) hb)
            replace HO313 := Aside0.mk (Kd.R_elder' (Kit.rx HO313.out) (Kd.R_base ho0) hb)
            replace HO320 := Aside0.mk (Kd.R_elder' (Kit.rx HO320.out) (Kd.R_base ho0) hb)
            replace HO327 := Aside0.mk (Kd.R_elder' (Kit.rx HO327.out) (Kd.R_base ho0) hb)
            replace HO335 := Aside0.mk (Kd.R_elder' (Kit.rx HO335.out) (Kd.R_base ho0) hb)
            have HO345 := Aside0.mk (Kd.R_lower (Kd.R_new' (Kd.R_new' (Kd.R_new' (Kd.R_new' (Kd.R_new' ho1 (Kd.R_lt (Kit.rx HO310.out))) (Kd.R_lt (Kit.rx HO316.out))) (Kd.R_lt (Kit.rx HO323.out))) (Kd.R_lt (Kit.rx HO330.out))) (Kd.R_lt (Kit.rx HO338.out))) Kit.bz)
            replace HO310 := Aside0.mk (Kd.R_elder' (Kit.rx HO310.out) (Kd.R_base ho1) hb)
            replace HO316 := Aside0.mk (Kd.R_elder' (Kit.rx HO316.out) (Kd.R_base ho1) hb)
            replace HO323 := Aside0.mk (Kd.R_elder' (Kit.rx HO323.out) (Kd.R_base ho1) hb)
            replace HO330 := Aside0.mk (Kd.R_elder' (Kit.rx HO330.out) (Kd.R_base ho1) hb)
            replace HO338 := Aside0.mk (Kd.R_elder' (Kit.rx HO338.out) (Kd.R_base ho1) hb)
            replace BK301 := Kit.bB BK301 hb
            replace BK302 := Kit.bB BK302 hb
            replace BK324 := Kit.bB BK324 hb
            replace BK331 := Kit.bB BK331 hb
            replace HB := Kit.hB hb
            (try clear hb)
            (try clear hb2)
            (try clear hk)
            (try clear hi)
            (try clear ho0)
            (try clear ho1)
            obtain ⟨Ao107, co107, eo107⟩ := Kd.R_slice HO342.out
            (first | subst eo107 | (injection eo107 with f1_ f2_ f3_; have f4_ := f1_.symm; have f5_ := f3_.symm; clear f1_ f2_ f3_; subst f4_; subst f5_))
            obtain ⟨Ao108, co108, eo108⟩ := Kd.R_slice HO345.out
            (first | subst eo108 | (injection eo108 with f1_ f2_ f3_; have f4_ := f1_.symm; have f5_ := f3_.symm; clear f1_ f2_ f3_; subst f4_; subst f5_))
            refine hK.out _ _ ⟨(blk_cell BK331.out 0).trans rfl, (blk_cell BK331.out 1).trans rfl, (blk_cell BK302.out 0).trans rfl, (blk_cell BK302.out 1).trans rfl⟩ (fun hHeld => ?_)
            clear hK K
            refine norm_ (a' := ?_) ?_ ?_
            rotate_left
            · show Act.put _ (some 42) _ = _
              simp only [Act.put, List.setIfInBounds_toArray, List.set_cons_zero, List.set_cons_succ, i64_w, i32_w]
              rfl
            refine one_ (i := 3) (N := some 43) #[true, true, true, true, false] rfl rfl (by kernel_rfl) (by decide) (fun K hK => ?_)
            refine goes_ Try.func33 (by kernel_rfl) rfl #[.agg #[.slice Ao92 t325.length co92, .slice Ao97 t328.length co97], .agg #[.slice Ao107 t340.length co107, .slice Ao108 t343.length co108]] (by rfl) rfl rfl Kit.am ?_
            with_reducible refine (laws_eqCache.calls k _ _ t325 _ _ t328 _ _ t340 _ _ t343 true _ ?side1 ?side2 ?side3 ?side4 ?side5 ?side6 ?side7 ?side8 A64.out).mono ?_
            (case side1 => exact Kit.cx ((Kd.R_reads' HO327.out).2.2))
            (case side2 => exact (Kd.R_reads' HO327.out).2.1)
            (case side3 => exact Kit.cx ((Kd.R_reads' HO330.out).2.2))
            (case side4 => exact (Kd.R_reads' HO330.out).2.1)
            (case side5 => exact Kit.cx ((Kd.R_reads' HO342.out).2.2))
            (case side6 => exact (Kd.R_reads' HO342.out).2.1)
            (case side7 => exact Kit.cx ((Kd.R_reads' HO345.out).2.2))
            (case side8 => exact (Kd.R_reads' HO345.out).2.1)
            rintro e w109 ⟨rfl, hb⟩
            refine ⟨_, rfl, ?_⟩
            replace HO307 := Aside0.mk (Kd.R_below (Kit.rx HO307.out) hb)
            replace HO310 := Aside0.mk (Kd.R_below (Kit.rx HO310.out) hb)
            replace HO313 := Aside0.mk (Kd.R_below (Kit.rx HO313.out) hb)
            replace HO316 := Aside0.mk (Kd.R_below (Kit.rx HO316.out) hb)
            replace HO320 := Aside0.mk (Kd.R_below (Kit.rx HO320.out) hb)
            replace HO323 := Aside0.mk (Kd.R_below (Kit.rx HO323.out) hb)
            replace HO327 := Aside0.mk (Kd.R_below (Kit.rx HO327.out) hb)
            replace HO330 := Aside0.mk (Kd.R_below (Kit.rx HO330.out) hb)
            replace HO335 := Aside0.mk (Kd.R_below (Kit.rx HO335.out) hb)
            replace HO338 := Aside0.mk (Kd.R_below (Kit.rx HO338.out) hb)
            replace HO342 := Aside0.mk (Kd.R_below (Kit.rx HO342.out) hb)
            replace HO345 := Aside0.mk (Kd.R_below (Kit.rx HO345.out) hb)
            replace BK301 := Kit.bB BK301 hb
            replace BK302 := Kit.bB BK302 hb
            replace BK324 := Kit.bB BK324 hb
            replace BK331 := Kit.bB BK331 hb
            replace HB := Kit.hB hb
            (try clear hb)
            (try clear hb2)
            (try clear hk)
            (try clear hi)
            refine hK.out _ _ ⟨(blk_cell BK331.out 0).trans rfl, (blk_cell BK331.out 1).trans rfl, (blk_cell BK302.out 0).trans rfl, (blk_cell BK302.out 1).trans rfl⟩ (fun hHeld => ?_)
            clear hK K
            refine norm_ (a' := ?_) ?_ ?_
            rotate_left
            · show Act.put _ (some 43) _ = _
              simp only [Act.put, List.setIfInBounds_toArray, List.set_cons_zero, List.set_cons_succ, i64_w, i32_w]
              rfl
            refine pure_ (i := 4) (N := some 44) (v := ?_) (a' := ?_) #[true, true, true, true, true] rfl rfl (by kernel_rfl) (fun _ _ _ h => h) (Or.inl ⟨by rfl, ?_⟩) ?_ ?_
            rotate_left
            · intro w'
              go_simp
              with_reducible rfl
            rotate_left
            · simp only [Act.put, List.setIfInBounds_toArray, List.set_cons_zero, List.set_cons_succ, i64_w, i32_w]
              rfl
            refine done_ (by kernel_rfl) ?_
            try go_wp2
            go_ret
            exact ⟨Kit.er, Kit.bl⟩
          · replace c65 := Bool.eq_false_iff.mpr c65
            subst c65
            have H1 : (some false) = some r := by rw [if_neg (show ¬ (false = true) by decide)] at H; exact H
            clear H
            have H := H1
            clear H1
            obtain rfl := Option.some.inj H
            go_enter Try.func9, Try.ntmps9
            try go_wp2_with (first | ((with_reducible refine gate_dst (N := 2) rfl ?_); refine box_event ?hg (N := 2) ?hd (cs := #[.slice A0_0 l0_0.length c0_0, .slice A0_1 l0_1.length c0_1]) (t := 56) ?hr ?_; (case hd => rfl); (case hg => rfl); (case hr => exact Kit.hr); intro gb301 hg w110 hbox hb; have BK301 := Aside0.mk (hbox); have GW301 := Kit.gX (w := w) hg; have GE301 := GW301; replace HB := Kit.hB hb; clear hb hbox hg) | ((with_reducible refine gate_dst (N := 3) rfl ?_); refine box_event ?hg (N := 3) ?hd (cs := #[.slice A1_0 l1_0.length c1_0, .slice A1_1 l1_1.length c1_1]) (t := 56) ?hr ?_; (case hd => rfl); (case hg => rfl); (case hr => exact Kit.hr); intro gb302 hg w111 hbox hb; have BK302 := Aside0.mk (hbox); have GW302 := Kit.gX (w := w) hg; have GE302 := GW302; replace HB := Kit.hB hb; have NB301_302 := Aside0.mk (Kit.nlt hg BK301.out); have NB302_301 := Aside0.mk (Kit.ngt hg BK301.out); replace BK301 := Kit.bB BK301 hb; clear hb hbox hg; have hnb112 := NB301_302.out; have hnc112 := NB302_301.out; obtain ⟨hcz113_0, hcz113_1, hfz113_0, hfz113_1⟩ := Kit.c2 BK301.out) | ((with_reducible refine Kit.gate_callee (f := 29) rfl ?_); refine goesL_ (some 12) rfl rfl Try.func29 (by kernel_rfl) rfl #[.agg #[.slice A0_0 l0_0.length c0_0, .slice A0_1 l0_1.length c0_1], .int .i64 1048576] rfl Kit.am ?_; (with_reducible refine (laws_szCache.calls k _ _ l0_0 _ _ l0_1 1048576 t303 _ ?side1 ?side2 ?side3 ?side4 A3.out).mono ?_); (case side1 => exact Kit.cr HR0_0.out HB.out); (case side2 => exact HC0_0.out); (case side3 => exact Kit.cr HR0_1.out HB.out); (case side4 => exact HC0_1.out); rintro e w114 ⟨rfl, hb⟩; refine ⟨_, rfl, ?_⟩; replace BK301 := Kit.bB BK301 hb; replace BK302 := Kit.bB BK302 hb; replace HB := Kit.hB hb; (try clear hb); (try clear hb2); (try clear hk); (try clear hi); obtain ⟨hcz115_0, hcz115_1, hfz115_0, hfz115_1⟩ := Kit.c2 BK302.out) | ((with_reducible refine Kit.gate_callee (f := 29) rfl ?_); refine goesL_ (some 17) rfl rfl Try.func29 (by kernel_rfl) rfl #[.agg #[.slice A1_0 l1_0.length c1_0, .slice A1_1 l1_1.length c1_1], .int .i64 t303] rfl Kit.am ?_; (with_reducible refine (laws_szCache.calls k _ _ l1_0 _ _ l1_1 t303 t304 _ ?side1 ?side2 ?side3 ?side4 A10.out).mono ?_); (case side1 => exact Kit.cr HR1_0.out HB.out); (case side2 => exact HC1_0.out); (case side3 => exact Kit.cr HR1_1.out HB.out); (case side4 => exact HC1_1.out); rintro e w116 ⟨rfl, hb⟩; refine ⟨_, rfl, ?_⟩; replace BK301 := Kit.bB BK301 hb; replace BK302 := Kit.bB BK302 hb; replace HB := Kit.hB hb; (try clear hb); (try clear hb2); (try clear hk); (try clear hi)))
            replace BK301 := Aside0.mk (blk_drew BK301.out)
            replace BK302 := Aside0.mk (blk_drew BK302.out)
            replace HB := Aside0.mk (below_drew1 HB.out)
            refine start_ (n := 6) (S := fun w' => w'.cell? ⟨gb301, 0, none⟩ = some (.slice A0_0 l0_0.length c0_0) ∧ w'.cell? ⟨gb301, 1, none⟩ = some (.slice A0_1 l0_1.length c0_1) ∧ w'.cell? ⟨gb302, 0, none⟩ = some (.slice A1_0 l1_0.length c1_0) ∧ w'.cell? ⟨gb302, 1, none⟩ = some (.slice A1_1 l1_1.length c1_1)) (ds := []) #[false, false, false, false, false, false] (by kernel_rfl) rfl rfl ⟨(blk_cell BK301.out 0).trans rfl, (blk_cell BK301.out 1).trans rfl, (blk_cell BK302.out 0).trans rfl, (blk_cell BK302.out 1).trans rfl⟩ (fun hHeld => ?_)
            generalize w116.drew = w117 at BK301 BK302 HB hHeld ⊢
            refine take_ (i := 0) (N := some 20) (v := ?_) (a' := ?_) #[true, false, false, false, false, false] rfl rfl (by kernel_rfl) (fun _ _ _ h => h) (Or.inl ⟨by rfl, ?_⟩) hHeld ?_ ?_
            rotate_left
            · rintro w' ⟨s0, s1, s2, s3⟩
              go_simp
              with_reducible rfl
            rotate_left
            · simp only [Act.put, List.setIfInBounds_toArray, List.set_cons_zero, List.set_cons_succ, i64_w, i32_w]
              rfl
            refine take_ (i := 2) (N := some 22) (v := ?_) (a' := ?_) #[true, false, true, false, false, false] rfl rfl (by kernel_rfl) (fun _ _ _ h => h) (Or.inl ⟨by rfl, ?_⟩) hHeld ?_ ?_
            rotate_left
            · rintro w' ⟨s0, s1, s2, s3⟩
              go_simp
              with_reducible rfl
            rotate_left
            · simp only [Act.put, List.setIfInBounds_toArray, List.set_cons_zero, List.set_cons_succ, i64_w, i32_w]
              rfl
            refine one_ (i := 1) (N := some 21) #[true, true, true, false, false, false] rfl rfl (by kernel_rfl) (by decide) (fun K hK => ?_)
            refine goes_ Try.func31 (by kernel_rfl) rfl #[.agg #[.slice A0_0 l0_0.length c0_0, .slice A0_1 l0_1.length c0_1]] (by rfl) rfl rfl Kit.am ?_
            with_reducible refine (laws_toCache.calls k _ _ l0_0 _ _ l0_1 t305 t308 _ ?side1 ?side2 ?side3 ?side4 A19.out).mono ?_
            (case side1 => exact Kit.cr HR0_0.out HB.out)
            (case side2 => exact HC0_0.out)
            (case side3 => exact Kit.cr HR0_1.out HB.out)
            (case side4 => exact HC0_1.out)
            rintro e w118 ⟨v306, v309, rfl, ho0, ho1, hb⟩
            refine ⟨_, rfl, ?_⟩
            have HO307 := Aside0.mk (Kd.R_lower ho0 Kit.bz)
            have HO310 := Aside0.mk (Kd.R_lower ho1 Kit.bz)
            replace BK301 := Kit.bB BK301 hb
            replace BK302 := Kit.bB BK302 hb
            replace HB := Kit.hB hb
            (try clear hb)
            (try clear hb2)
            (try clear hk)
            (try clear hi)
            (try clear ho0)
            (try clear ho1)
            refine hK.out _ _ ⟨(blk_cell BK301.out 0).trans rfl, (blk_cell BK301.out 1).trans rfl, (blk_cell BK302.out 0).trans rfl, (blk_cell BK302.out 1).trans rfl⟩ (fun hHeld => ?_)
            clear hK K
            refine norm_ (a' := ?_) ?_ ?_
            rotate_left
            · show Act.put _ (some 21) _ = _
              simp only [Act.put, List.setIfInBounds_toArray, List.set_cons_zero, List.set_cons_succ, i64_w, i32_w]
              rfl
            refine one_ (i := 3) (N := some 23) #[true, true, true, true, false, false] rfl rfl (by kernel_rfl) (by decide) (fun K hK => ?_)
            refine goes_ Try.func31 (by kernel_rfl) rfl #[.agg #[.slice A1_0 l1_0.length c1_0, .slice A1_1 l1_1.length c1_1]] (by rfl) rfl rfl Kit.am ?_
            with_reducible refine (laws_toCache.calls k _ _ l1_0 _ _ l1_1 t311 t314 _ ?side1 ?side2 ?side3 ?side4 A20.out).mono ?_
            (case side1 => exact Kit.cr HR1_0.out HB.out)
            (case side2 => exact HC1_0.out)
            (case side3 => exact Kit.cr HR1_1.out HB.out)
            (case side4 => exact HC1_1.out)
            rintro e w119 ⟨v312, v315, rfl, ho0, ho1, hb⟩
            refine ⟨_, rfl, ?_⟩
            have HO313 := Aside0.mk (Kd.R_lower (Kd.R_new' ho0 (Kd.R_lt (Kit.rx HO307.out))) Kit.bz)
            replace HO307 := Aside0.mk (Kd.R_elder' (Kit.rx HO307.out) (Kd.R_base ho0) hb)
            have HO316 := Aside0.mk (Kd.R_lower (Kd.R_new' ho1 (Kd.R_lt (Kit.rx HO310.out))) Kit.bz)
            replace HO310 := Aside0.mk (Kd.R_elder' (Kit.rx HO310.out) (Kd.R_base ho1) hb)
            replace BK301 := Kit.bB BK301 hb
            replace BK302 := Kit.bB BK302 hb
            replace HB := Kit.hB hb
            (try clear hb)
            (try clear hb2)
            (try clear hk)
            (try clear hi)
            (try clear ho0)
            (try clear ho1)
            obtain ⟨Ao120, co120, eo120⟩ := Kd.R_slice HO307.out
            (first | subst eo120 | (injection eo120 with f1_ f2_ f3_; have f4_ := f1_.symm; have f5_ := f3_.symm; clear f1_ f2_ f3_; subst f4_; subst f5_))
            obtain ⟨Ao121, co121, eo121⟩ := Kd.R_slice HO310.out
            (first | subst eo121 | (injection eo121 with f1_ f2_ f3_; have f4_ := f1_.symm; have f5_ := f3_.symm; clear f1_ f2_ f3_; subst f4_; subst f5_))
            obtain ⟨Ao122, co122, eo122⟩ := Kd.R_slice HO313.out
            (first | subst eo122 | (injection eo122 with f1_ f2_ f3_; have f4_ := f1_.symm; have f5_ := f3_.symm; clear f1_ f2_ f3_; subst f4_; subst f5_))
            obtain ⟨Ao123, co123, eo123⟩ := Kd.R_slice HO316.out
            (first | subst eo123 | (injection eo123 with f1_ f2_ f3_; have f4_ := f1_.symm; have f5_ := f3_.symm; clear f1_ f2_ f3_; subst f4_; subst f5_))
            refine hK.out _ _ ⟨(blk_cell BK301.out 0).trans rfl, (blk_cell BK301.out 1).trans rfl, (blk_cell BK302.out 0).trans rfl, (blk_cell BK302.out 1).trans rfl⟩ (fun hHeld => ?_)
            clear hK K
            refine norm_ (a' := ?_) ?_ ?_
            rotate_left
            · show Act.put _ (some 23) _ = _
              simp only [Act.put, List.setIfInBounds_toArray, List.set_cons_zero, List.set_cons_succ, i64_w, i32_w]
              rfl
            refine one_ (i := 4) (N := some 24) #[true, true, true, true, true, false] rfl rfl (by kernel_rfl) (by decide) (fun K hK => ?_)
            refine goes_ Try.func40 (by kernel_rfl) rfl #[.agg #[.slice Ao120 t305.length co120, .slice Ao121 t308.length co121], .agg #[.slice Ao122 t311.length co122, .slice Ao123 t314.length co123]] (by rfl) rfl rfl Kit.am ?_
            with_reducible refine (spec_SameCache.calls k _ _ t305 _ _ t308 _ _ t311 _ _ t314 t317 _ ?side1 ?side2 ?side3 ?side4 ?side5 ?side6 ?side7 ?side8 A21.out).mono ?_
            (case side1 => exact Kit.cx ((Kd.R_reads' HO307.out).2.2))
            (case side2 => exact (Kd.R_reads' HO307.out).2.1)
            (case side3 => exact Kit.cx ((Kd.R_reads' HO310.out).2.2))
            (case side4 => exact (Kd.R_reads' HO310.out).2.1)
            (case side5 => exact Kit.cx ((Kd.R_reads' HO313.out).2.2))
            (case side6 => exact (Kd.R_reads' HO313.out).2.1)
            (case side7 => exact Kit.cx ((Kd.R_reads' HO316.out).2.2))
            (case side8 => exact (Kd.R_reads' HO316.out).2.1)
            rintro e w124 ⟨rfl, hb⟩
            refine ⟨_, rfl, ?_⟩
            replace HO307 := Aside0.mk (Kd.R_below (Kit.rx HO307.out) hb)
            replace HO310 := Aside0.mk (Kd.R_below (Kit.rx HO310.out) hb)
            replace HO313 := Aside0.mk (Kd.R_below (Kit.rx HO313.out) hb)
            replace HO316 := Aside0.mk (Kd.R_below (Kit.rx HO316.out) hb)
            replace BK301 := Kit.bB BK301 hb
            replace BK302 := Kit.bB BK302 hb
            replace HB := Kit.hB hb
            (try clear hb)
            (try clear hb2)
            (try clear hk)
            (try clear hi)
            refine hK.out _ _ ⟨(blk_cell BK301.out 0).trans rfl, (blk_cell BK301.out 1).trans rfl, (blk_cell BK302.out 0).trans rfl, (blk_cell BK302.out 1).trans rfl⟩ (fun hHeld => ?_)
            clear hK K
            refine norm_ (a' := ?_) ?_ ?_
            rotate_left
            · show Act.put _ (some 24) _ = _
              simp only [Act.put, List.setIfInBounds_toArray, List.set_cons_zero, List.set_cons_succ, i64_w, i32_w]
              rfl
            refine pure_ (i := 5) (N := some 6) (v := ?_) (a' := ?_) #[true, true, true, true, true, true] rfl rfl (by kernel_rfl) (fun _ _ _ h => h) (Or.inl ⟨by rfl, ?_⟩) ?_ ?_
            rotate_left
            · intro w'
              go_simp
              with_reducible rfl
            rotate_left
            · simp only [Act.put, List.setIfInBounds_toArray, List.set_cons_zero, List.set_cons_succ, i64_w, i32_w]
              rfl
            refine done_ (by kernel_rfl) ?_
            obtain ⟨hcz125_0, hcz125_1, hfz125_0, hfz125_1⟩ := Kit.c2 BK301.out
            try go_wp2_with (first | ((with_reducible refine Kit.gate_callee (f := 31) rfl ?_); refine goesL_ (some 26) rfl rfl Try.func31 (by kernel_rfl) rfl #[.agg #[.slice A0_0 l0_0.length c0_0, .slice A0_1 l0_1.length c0_1]] rfl Kit.am ?_; (with_reducible refine (laws_toCache.calls k _ _ l0_0 _ _ l0_1 t318 t321 _ ?side1 ?side2 ?side3 ?side4 A22.out).mono ?_); (case side1 => exact Kit.cr HR0_0.out HB.out); (case side2 => exact HC0_0.out); (case side3 => exact Kit.cr HR0_1.out HB.out); (case side4 => exact HC0_1.out); rintro e w126 ⟨v319, v322, rfl, ho0, ho1, hb⟩; refine ⟨_, rfl, ?_⟩; have one_v319 : (v319 : Value).oneCell' = true := Kit.ov0; have one_v322 : (v322 : Value).oneCell' = true := Kit.ov1; have HO320 := Aside0.mk (Kd.R_lower (Kd.R_new' (Kd.R_new' ho0 (Kd.R_lt (Kit.rx HO307.out))) (Kd.R_lt (Kit.rx HO313.out))) Kit.bz); replace HO307 := Aside0.mk (Kd.R_elder' (Kit.rx HO307.out) (Kd.R_base ho0) hb); replace HO313 := Aside0.mk (Kd.R_elder' (Kit.rx HO313.out) (Kd.R_base ho0) hb); have HO323 := Aside0.mk (Kd.R_lower (Kd.R_new' (Kd.R_new' ho1 (Kd.R_lt (Kit.rx HO310.out))) (Kd.R_lt (Kit.rx HO316.out))) Kit.bz); replace HO310 := Aside0.mk (Kd.R_elder' (Kit.rx HO310.out) (Kd.R_base ho1) hb); replace HO316 := Aside0.mk (Kd.R_elder' (Kit.rx HO316.out) (Kd.R_base ho1) hb); replace BK301 := Kit.bB BK301 hb; replace BK302 := Kit.bB BK302 hb; replace HB := Kit.hB hb; (try clear hb); (try clear hb2); (try clear hk); (try clear hi); (try clear ho0); (try clear ho1)) | ((with_reducible refine gate_dst (N := 7) rfl ?_); refine box_event ?hg (N := 7) ?hd (cs := #[.slice none 0 0, .slice none 0 0]) (t := 62) ?hr ?_; (case hd => rfl); (case hg => rfl); (case hr => exact Kit.hr); intro gb324 hg w127 hbox hb; replace HO307 := Aside0.mk (Kd.R_below (Kit.rx HO307.out) hb); replace HO310 := Aside0.mk (Kd.R_below (Kit.rx HO310.out) hb); replace HO313 := Aside0.mk (Kd.R_below (Kit.rx HO313.out) hb); replace HO316 := Aside0.mk (Kd.R_below (Kit.rx HO316.out) hb); replace HO320 := Aside0.mk (Kd.R_below (Kit.rx HO320.out) hb); replace HO323 := Aside0.mk (Kd.R_below (Kit.rx HO323.out) hb); have BK324 := Aside0.mk (hbox); have GW324 := Kit.gX (w := w) hg; have GE324 := GW324; replace HB := Kit.hB hb; have NB301_324 := Aside0.mk (Kit.nlt hg BK301.out); have NB324_301 := Aside0.mk (Kit.ngt hg BK301.out); replace BK301 := Kit.bB BK301 hb; have NB302_324 := Aside0.mk (Kit.nlt hg BK302.out); have NB324_302 := Aside0.mk (Kit.ngt hg BK302.out); replace BK302 := Kit.bB BK302 hb; clear hb hbox hg; obtain ⟨Ao128, co128, eo128⟩ := Kd.R_slice HO320.out; subst eo128; have hnb129 := NB324_301.out; have hnc129 := NB301_324.out; have hnb130 := NB324_302.out; have hnc130 := NB302_324.out; obtain ⟨hcz131_0, hcz131_1, hfz131_0, hfz131_1⟩ := Kit.c2 BK324.out; obtain ⟨Ao132, co132, eo132⟩ := Kd.R_slice HO323.out; subst eo132; obtain ⟨hcz133_0, hcz133_1, hfz133_0, hfz133_1⟩ := Kit.c2 BK302.out) | ((with_reducible refine Kit.gate_callee (f := 31) rfl ?_); refine goesL_ (some 28) rfl rfl Try.func31 (by kernel_rfl) rfl #[.agg #[.slice A1_0 l1_0.length c1_0, .slice A1_1 l1_1.length c1_1]] rfl Kit.am ?_; (with_reducible refine (laws_toCache.calls k _ _ l1_0 _ _ l1_1 t325 t328 _ ?side1 ?side2 ?side3 ?side4 A23.out).mono ?_); (case side1 => exact Kd.C_below HR1_0.out Kit.bl); (case side2 => exact HC1_0.out); (case side3 => exact Kd.C_below HR1_1.out Kit.bl); (case side4 => exact HC1_1.out); rintro e w134 ⟨v326, v329, rfl, ho0, ho1, hb⟩; refine ⟨_, rfl, ?_⟩; have one_v326 : (v326 : Value).oneCell' = true := Kit.ov0; have one_v329 : (v329 : Value).oneCell' = true := Kit.ov1; have n0_ := Aside0.mk (Kd.R_elder' (Kit.rf HO307.out BK324.out) (Kd.R_base ho0) hb); have n1_ := Aside0.mk (Kd.R_elder' (Kit.rf HO310.out BK324.out) (Kd.R_base ho1) hb); have n2_ := Aside0.mk (Kd.R_elder' (Kit.rf HO313.out BK324.out) (Kd.R_base ho0) hb); have n3_ := Aside0.mk (Kd.R_elder' (Kit.rf HO316.out BK324.out) (Kd.R_base ho1) hb); have n4_ := Aside0.mk (Kd.R_elder' (Kit.rf HO320.out BK324.out) (Kd.R_base ho0) hb); have n5_ := Aside0.mk (Kd.R_elder' (Kit.rf HO323.out BK324.out) (Kd.R_base ho1) hb); have n6_ := Aside0.mk (Kd.R_lower (Kd.R_new' (Kd.R_new' (Kd.R_new' ho0 (Kd.R_lt (Kit.rf HO307.out BK324.out))) (Kd.R_lt (Kit.rf HO313.out BK324.out))) (Kd.R_lt (Kit.rf HO320.out BK324.out))) Kit.bz); have n7_ := Aside0.mk (Kd.R_lower (Kd.R_new' (Kd.R_new' (Kd.R_new' ho1 (Kd.R_lt (Kit.rf HO310.out BK324.out))) (Kd.R_lt (Kit.rf HO316.out BK324.out))) (Kd.R_lt (Kit.rf HO323.out BK324.out))) Kit.bz); have n8_ := Aside0.mk (Kit.bf BK301.out hb); have n9_ := Aside0.mk (Kit.bf BK302.out hb); have n10_ := Aside0.mk (blk_below (g := gb324) (o := .cells #[.slice Ao128 t318.length co128, .slice Ao132 t321.length co132] 62 (0, 0)) (by (with_reducible repeat (first | refine blk_drewN ?_ _ | refine blk_drew ?_ | refine blk_alloc ?_ _)); refine blk_put (cs := #[.slice Ao128 t318.length co128, .slice none 0 0]) ?_ 1 _ rfl; (with_reducible repeat (first | refine blk_drewN ?_ _ | refine blk_drew ?_ | refine blk_alloc ?_ _)); refine blk_put (cs := #[.slice none 0 0, .slice none 0 0]) ?_ 0 _ rfl; (with_reducible repeat (first | refine blk_drewN ?_ _ | refine blk_drew ?_ | refine blk_alloc ?_ _)); exact BK324.out) hb); have n11_ := Kit.hB hb; clear HO307; clear HO310; clear HO313; clear HO316; clear HO320; clear HO323; clear BK301; clear BK302; clear BK324; clear HB; have HO307 := n0_; have HO310 := n1_; have HO313 := n2_; have HO316 := n3_; have HO320 := n4_; have HO323 := n5_; have HO327 := n6_; have HO330 := n7_; have BK301 := n8_; have BK302 := n9_; have BK324 := n10_; have HB := n11_; clear n0_ n1_ n2_ n3_ n4_ n5_ n6_ n7_ n8_ n9_ n10_ n11_; (try clear hb); (try clear hb2); (try clear hk); (try clear hi); (try clear ho0); (try clear ho1)) | ((with_reducible refine gate_dst (N := 8) rfl ?_); refine box_event ?hg (N := 8) ?hd (cs := #[.slice none 0 0, .slice none 0 0]) (t := 62) ?hr ?_; (case hd => rfl); (case hg => rfl); (case hr => exact Kit.hr); intro gb331 hg w135 hbox hb; replace HO307 := Aside0.mk (Kd.R_below (Kit.rx HO307.out) hb); replace HO310 := Aside0.mk (Kd.R_below (Kit.rx HO310.out) hb); replace HO313 := Aside0.mk (Kd.R_below (Kit.rx HO313.out) hb); replace HO316 := Aside0.mk (Kd.R_below (Kit.rx HO316.out) hb); replace HO320 := Aside0.mk (Kd.R_below (Kit.rx HO320.out) hb); replace HO323 := Aside0.mk (Kd.R_below (Kit.rx HO323.out) hb); replace HO327 := Aside0.mk (Kd.R_below (Kit.rx HO327.out) hb); replace HO330 := Aside0.mk (Kd.R_below (Kit.rx HO330.out) hb); have BK331 := Aside0.mk (hbox); have GW331 := Kit.gX (w := w) hg; have GE331 := GW331; replace HB := Kit.hB hb; have NB301_331 := Aside0.mk (Kit.nlt hg BK301.out); have NB331_301 := Aside0.mk (Kit.ngt hg BK301.out); replace BK301 := Kit.bB BK301 hb; have NB302_331 := Aside0.mk (Kit.nlt hg BK302.out); have NB331_302 := Aside0.mk (Kit.ngt hg BK302.out); replace BK302 := Kit.bB BK302 hb; have NB324_331 := Aside0.mk (Kit.nlt hg BK324.out); have NB331_324 := Aside0.mk (Kit.ngt hg BK324.out); replace BK324 := Kit.bB BK324 hb; clear hb hbox hg; obtain ⟨Ao136, co136, eo136⟩ := Kd.R_slice HO327.out; subst eo136; have hnb137 := NB331_301.out; have hnc137 := NB301_331.out; have hnb138 := NB331_302.out; have hnc138 := NB302_331.out; have hnb139 := NB331_324.out; have hnc139 := NB324_331.out; obtain ⟨hcz140_0, hcz140_1, hfz140_0, hfz140_1⟩ := Kit.c2 BK331.out; obtain ⟨Ao141, co141, eo141⟩ := Kd.R_slice HO330.out; subst eo141; obtain ⟨hcz142_0, hcz142_1, hfz142_0, hfz142_1⟩ := Kit.c2 BK324.out) | ((with_reducible refine Kit.gate_callee (f := 41) rfl ?_); refine goesL_ (some 31) rfl rfl Try.func41 (by kernel_rfl) rfl #[.agg #[.slice Ao128 t318.length co128, .slice Ao132 t321.length co132], .agg #[.slice Ao136 t325.length co136, .slice Ao141 t328.length co141]] rfl Kit.am ?_; (with_reducible refine (impl_SameCache.calls k _ _ t318 _ _ t321 _ _ t325 _ _ t328 t332 _ ?side1 ?side2 ?side3 ?side4 ?side5 ?side6 ?side7 ?side8 A24.out).mono ?_); (case side1 => refine (Kd.R_reads' (e := 97) (base := w.heap.size) (ok := fun k_ => (((True ∧ some k_ ≠ (.slice Ao120 t305.length co120 : Value).ownBlock) ∧ some k_ ≠ (.slice Ao122 t311.length co122 : Value).ownBlock) ∧ some k_ ≠ (.slice Ao136 t325.length co136 : Value).ownBlock)) (n := t318.length) (c := co128) ?_).2.2; exact (Kit.rf HO320.out BK331.out)); (case side2 => exact (Kd.R_reads' HO320.out).2.1); (case side3 => refine (Kd.R_reads' (e := 89) (base := w.heap.size) (ok := fun k_ => (((True ∧ some k_ ≠ (.slice Ao121 t308.length co121 : Value).ownBlock) ∧ some k_ ≠ (.slice Ao123 t314.length co123 : Value).ownBlock) ∧ some k_ ≠ (.slice Ao141 t328.length co141 : Value).ownBlock)) (n := t321.length) (c := co132) ?_).2.2; exact (Kit.rf HO323.out BK331.out)); (case side4 => exact (Kd.R_reads' HO323.out).2.1); (case side5 => refine (Kd.R_reads' (e := 97) (base := w.heap.size) (ok := fun k_ => (((True ∧ some k_ ≠ (.slice Ao120 t305.length co120 : Value).ownBlock) ∧ some k_ ≠ (.slice Ao122 t311.length co122 : Value).ownBlock) ∧ some k_ ≠ (.slice Ao128 t318.length co128 : Value).ownBlock)) (n := t325.length) (c := co136) ?_).2.2; exact (Kit.rf HO327.out BK331.out)); (case side6 => exact (Kd.R_reads' HO327.out).2.1); (case side7 => refine (Kd.R_reads' (e := 89) (base := w.heap.size) (ok := fun k_ => (((True ∧ some k_ ≠ (.slice Ao121 t308.length co121 : Value).ownBlock) ∧ some k_ ≠ (.slice Ao123 t314.length co123 : Value).ownBlock) ∧ some k_ ≠ (.slice Ao132 t321.length co132 : Value).ownBlock)) (n := t328.length) (c := co141) ?_).2.2; exact (Kit.rf HO330.out BK331.out)); (case side8 => exact (Kd.R_reads' HO330.out).2.1); rintro e w143 ⟨rfl, hb⟩; refine ⟨_, rfl, ?_⟩; have n0_ := Aside0.mk (Kd.R_below (Kit.rf HO307.out BK331.out) hb); have n1_ := Aside0.mk (Kd.R_below (Kit.rf HO310.out BK331.out) hb); have n2_ := Aside0.mk (Kd.R_below (Kit.rf HO313.out BK331.out) hb); have n3_ := Aside0.mk (Kd.R_below (Kit.rf HO316.out BK331.out) hb); have n4_ := Aside0.mk (Kd.R_below (Kit.rf HO320.out BK331.out) hb); have n5_ := Aside0.mk (Kd.R_below (Kit.rf HO323.out BK331.out) hb); have n6_ := Aside0.mk (Kd.R_below (Kit.rf HO327.out BK331.out) hb); have n7_ := Aside0.mk (Kd.R_below (Kit.rf HO330.out BK331.out) hb); have n8_ := Aside0.mk (Kit.bf BK301.out hb); have n9_ := Aside0.mk (Kit.bf BK302.out hb); have n10_ := Aside0.mk (Kit.bf BK324.out hb); have n11_ := Aside0.mk (blk_below (g := gb331) (o := .cells #[.slice Ao136 t325.length co136, .slice Ao141 t328.length co141] 62 (0, 0)) (by (with_reducible repeat (first | refine blk_drewN ?_ _ | refine blk_drew ?_ | refine blk_alloc ?_ _)); refine blk_put (cs := #[.slice Ao136 t325.length co136, .slice none 0 0]) ?_ 1 _ rfl; (with_reducible repeat (first | refine blk_drewN ?_ _ | refine blk_drew ?_ | refine blk_alloc ?_ _)); refine blk_put (cs := #[.slice none 0 0, .slice none 0 0]) ?_ 0 _ rfl; (with_reducible repeat (first | refine blk_drewN ?_ _ | refine blk_drew ?_ | refine blk_alloc ?_ _)); exact BK331.out) hb); have n12_ := Kit.hB hb; clear HO307; clear HO310; clear HO313; clear HO316; clear HO320; clear HO323; clear HO327; clear HO330; clear BK301; clear BK302; clear BK324; clear BK331; clear HB; have HO307 := n0_; have HO310 := n1_; have HO313 := n2_; have HO316 := n3_; have HO320 := n4_; have HO323 := n5_; have HO327 := n6_; have HO330 := n7_; have BK301 := n8_; have BK302 := n9_; have BK324 := n10_; have BK331 := n11_; have HB := n12_; clear n0_ n1_ n2_ n3_ n4_ n5_ n6_ n7_ n8_ n9_ n10_ n11_ n12_; (try clear hb); (try clear hb2); (try clear hk); (try clear hi)))
            have n0_ := Aside0.mk (Kd.R_drew HO307.out)
            have n1_ := Aside0.mk (Kd.R_drew HO310.out)
            have n2_ := Aside0.mk (Kd.R_drew HO313.out)
            have n3_ := Aside0.mk (Kd.R_drew HO316.out)
            have n4_ := Aside0.mk (Kd.R_drew HO320.out)
            have n5_ := Aside0.mk (Kd.R_drew HO323.out)
            have n6_ := Aside0.mk (Kd.R_drew HO327.out)
            have n7_ := Aside0.mk (Kd.R_drew HO330.out)
            have n8_ := Aside0.mk (blk_drew BK301.out)
            have n9_ := Aside0.mk (blk_drew BK302.out)
            have n10_ := Aside0.mk (blk_drew BK324.out)
            have n11_ := Aside0.mk (blk_drew BK331.out)
            have n12_ := Aside0.mk (below_drew1 HB.out)
            clear HO307
            clear HO310
            clear HO313
            clear HO316
            clear HO320
            clear HO323
            clear HO327
            clear HO330
            clear BK301
            clear BK302
            clear BK324
            clear BK331
            clear HB
            have HO307 := n0_
            have HO310 := n1_
            have HO313 := n2_
            have HO316 := n3_
            have HO320 := n4_
            have HO323 := n5_
            have HO327 := n6_
            have HO330 := n7_
            have BK301 := n8_
            have BK302 := n9_
            have BK324 := n10_
            have BK331 := n11_
            have HB := n12_
            clear n0_ n1_ n2_ n3_ n4_ n5_ n6_ n7_ n8_ n9_ n10_ n11_ n12_
            refine start_ (n := 5) (S := fun w' => w'.cell? ⟨gb324, 0, none⟩ = some (.slice Ao128 t318.length co128) ∧ w'.cell? ⟨gb324, 1, none⟩ = some (.slice Ao132 t321.length co132) ∧ w'.cell? ⟨gb301, 0, none⟩ = some (.slice A0_0 l0_0.length c0_0) ∧ w'.cell? ⟨gb301, 1, none⟩ = some (.slice A0_1 l0_1.length c0_1)) (ds := []) #[false, false, false, false, false] (by kernel_rfl) rfl rfl ⟨(blk_cell BK324.out 0).trans rfl, (blk_cell BK324.out 1).trans rfl, (blk_cell BK301.out 0).trans rfl, (blk_cell BK301.out 1).trans rfl⟩ (fun hHeld => ?_)
            generalize w143.drew = w144 at HO307 HO310 HO313 HO316 HO320 HO323 HO327 HO330 BK301 BK302 BK324 BK331 HB hHeld ⊢
            refine take_ (i := 0) (N := some 35) (v := ?_) (a' := ?_) #[true, false, false, false, false] rfl rfl (by kernel_rfl) (fun _ _ _ h => h) (Or.inl ⟨by rfl, ?_⟩) hHeld ?_ ?_
            rotate_left
            · rintro w' ⟨s0, s1, s2, s3⟩
              go_simp
              with_reducible rfl
            rotate_left
            · simp only [Act.put, List.setIfInBounds_toArray, List.set_cons_zero, List.set_cons_succ, i64_w, i32_w]
              rfl
            refine take_ (i := 1) (N := some 36) (v := ?_) (a' := ?_) #[true, true, false, false, false] rfl rfl (by kernel_rfl) (fun _ _ _ h => h) (Or.inl ⟨by rfl, ?_⟩) hHeld ?_ ?_
            rotate_left
            · rintro w' ⟨s0, s1, s2, s3⟩
              go_simp
              with_reducible rfl
            rotate_left
            · simp only [Act.put, List.setIfInBounds_toArray, List.set_cons_zero, List.set_cons_succ, i64_w, i32_w]
              rfl
            refine one_ (i := 2) (N := some 37) #[true, true, true, false, false] rfl rfl (by kernel_rfl) (by decide) (fun K hK => ?_)
            refine goes_ Try.func31 (by kernel_rfl) rfl #[.agg #[.slice A0_0 l0_0.length c0_0, .slice A0_1 l0_1.length c0_1]] (by rfl) rfl rfl Kit.am ?_
            with_reducible refine (laws_toCache.calls k _ _ l0_0 _ _ l0_1 t333 t336 _ ?side1 ?side2 ?side3 ?side4 A60.out).mono ?_
            (case side1 => exact Kit.cr HR0_0.out HB.out)
            (case side2 => exact HC0_0.out)
            (case side3 => exact Kit.cr HR0_1.out HB.out)
            (case side4 => exact HC0_1.out)
            rintro e w145 ⟨v334, v337, rfl, ho0, ho1, hb⟩
            refine ⟨_, rfl, ?_⟩
            have HO335 := Aside0.mk (Kd.R_lower (Kd.R_new' (Kd.R_new' (Kd.R_new' (Kd.R_new' ho0 (Kd.R_lt (Kit.rx HO307.out))) (Kd.R_lt (Kit.rx HO313.out))) (Kd.R_lt (Kit.rx HO320.out))) (Kd.R_lt (Kit.rx HO327.out))) Kit.bz)
            replace HO307 := Aside0.mk (Kd.R_elder' (Kit.rx HO307.out) (Kd.R_base ho0) hb)
            replace HO313 := Aside0.mk (Kd.R_elder' (Kit.rx HO313.out) (Kd.R_base ho0) hb)
            replace HO320 := Aside0.mk (Kd.R_elder' (Kit.rx HO320.out) (Kd.R_base ho0) hb)
            replace HO327 := Aside0.mk (Kd.R_elder' (Kit.rx HO327.out) (Kd.R_base ho0) hb)
            have HO338 := Aside0.mk (Kd.R_lower (Kd.R_new' (Kd.R_new' (Kd.R_new' (Kd.R_new' ho1 (Kd.R_lt (Kit.rx HO310.out))) (Kd.R_lt (Kit.rx HO316.out))) (Kd.R_lt (Kit.rx HO323.out))) (Kd.R_lt (Kit.rx HO330.out))) Kit.bz)
            replace HO310 := Aside0.mk (Kd.R_elder' (Kit.rx HO310.out) (Kd.R_base ho1) hb)
            replace HO316 := Aside0.mk (Kd.R_elder' (Kit.rx HO316.out) (Kd.R_base ho1) hb)
            replace HO323 := Aside0.mk (Kd.R_elder' (Kit.rx HO323.out) (Kd.R_base ho1) hb)
            replace HO330 := Aside0.mk (Kd.R_elder' (Kit.rx HO330.out) (Kd.R_base ho1) hb)
            replace BK301 := Kit.bB BK301 hb
            replace BK302 := Kit.bB BK302 hb
            replace BK324 := Kit.bB BK324 hb
            replace BK331 := Kit.bB BK331 hb
            replace HB := Kit.hB hb
            (try clear hb)
            (try clear hb2)
            (try clear hk)
            (try clear hi)
            (try clear ho0)
            (try clear ho1)
            obtain ⟨Ao146, co146, eo146⟩ := Kd.R_slice HO335.out
            (first | subst eo146 | (injection eo146 with f1_ f2_ f3_; have f4_ := f1_.symm; have f5_ := f3_.symm; clear f1_ f2_ f3_; subst f4_; subst f5_))
            obtain ⟨Ao147, co147, eo147⟩ := Kd.R_slice HO338.out
            (first | subst eo147 | (injection eo147 with f1_ f2_ f3_; have f4_ := f1_.symm; have f5_ := f3_.symm; clear f1_ f2_ f3_; subst f4_; subst f5_))
            refine hK.out _ _ ⟨(blk_cell BK324.out 0).trans rfl, (blk_cell BK324.out 1).trans rfl, (blk_cell BK301.out 0).trans rfl, (blk_cell BK301.out 1).trans rfl⟩ (fun hHeld => ?_)
            clear hK K
            refine norm_ (a' := ?_) ?_ ?_
            rotate_left
            · show Act.put _ (some 37) _ = _
              simp only [Act.put, List.setIfInBounds_toArray, List.set_cons_zero, List.set_cons_succ, i64_w, i32_w]
              rfl
            refine one_ (i := 3) (N := some 38) #[true, true, true, true, false] rfl rfl (by kernel_rfl) (by decide) (fun K hK => ?_)
            refine goes_ Try.func33 (by kernel_rfl) rfl #[.agg #[.slice Ao128 t318.length co128, .slice Ao132 t321.length co132], .agg #[.slice Ao146 t333.length co146, .slice Ao147 t336.length co147]] (by rfl) rfl rfl Kit.am ?_
            with_reducible refine (laws_eqCache.calls k _ _ t318 _ _ t321 _ _ t333 _ _ t336 true _ ?side1 ?side2 ?side3 ?side4 ?side5 ?side6 ?side7 ?side8 A61.out).mono ?_
            (case side1 => exact Kit.cx ((Kd.R_reads' HO320.out).2.2))
            (case side2 => exact (Kd.R_reads' HO320.out).2.1)
            (case side3 => exact Kit.cx ((Kd.R_reads' HO323.out).2.2))
            (case side4 => exact (Kd.R_reads' HO323.out).2.1)
            (case side5 => exact Kit.cx ((Kd.R_reads' HO335.out).2.2))
            (case side6 => exact (Kd.R_reads' HO335.out).2.1)
            (case side7 => exact Kit.cx ((Kd.R_reads' HO338.out).2.2))
            (case side8 => exact (Kd.R_reads' HO338.out).2.1)
            rintro e w148 ⟨rfl, hb⟩
            refine ⟨_, rfl, ?_⟩
            replace HO307 := Aside0.mk (Kd.R_below (Kit.rx HO307.out) hb)
            replace HO310 := Aside0.mk (Kd.R_below (Kit.rx HO310.out) hb)
            replace HO313 := Aside0.mk (Kd.R_below (Kit.rx HO313.out) hb)
            replace HO316 := Aside0.mk (Kd.R_below (Kit.rx HO316.out) hb)
            replace HO320 := Aside0.mk (Kd.R_below (Kit.rx HO320.out) hb)
            replace HO323 := Aside0.mk (Kd.R_below (Kit.rx HO323.out) hb)
            replace HO327 := Aside0.mk (Kd.R_below (Kit.rx HO327.out) hb)
            replace HO330 := Aside0.mk (Kd.R_below (Kit.rx HO330.out) hb)
            replace HO335 := Aside0.mk (Kd.R_below (Kit.rx HO335.out) hb)
            replace HO338 := Aside0.mk (Kd.R_below (Kit.rx HO338.out) hb)
            replace BK301 := Kit.bB BK301 hb
            replace BK302 := Kit.bB BK302 hb
            replace BK324 := Kit.bB BK324 hb
            replace BK331 := Kit.bB BK331 hb
            replace HB := Kit.hB hb
            (try clear hb)
            (try clear hb2)
            (try clear hk)
            (try clear hi)
            refine hK.out _ _ ⟨(blk_cell BK324.out 0).trans rfl, (blk_cell BK324.out 1).trans rfl, (blk_cell BK301.out 0).trans rfl, (blk_cell BK301.out 1).trans rfl⟩ (fun hHeld => ?_)
            clear hK K
            refine norm_ (a' := ?_) ?_ ?_
            rotate_left
            · show Act.put _ (some 38) _ = _
              simp only [Act.put, List.setIfInBounds_toArray, List.set_cons_zero, List.set_cons_succ, i64_w, i32_w]
              rfl
            refine pure_ (i := 4) (N := some 39) (v := ?_) (a' := ?_) #[true, true, true, true, true] rfl rfl (by kernel_rfl) (fun _ _ _ h => h) (Or.inl ⟨by rfl, ?_⟩) ?_ ?_
            rotate_left
            · intro w'
              go_simp
              with_reducible rfl
            rotate_left
            · simp only [Act.put, List.setIfInBounds_toArray, List.set_cons_zero, List.set_cons_succ, i64_w, i32_w]
              rfl
            refine done_ (by kernel_rfl) ?_
            try go_wp2
            replace HO307 := Aside0.mk (Kd.R_drew HO307.out)
            replace HO310 := Aside0.mk (Kd.R_drew HO310.out)
            replace HO313 := Aside0.mk (Kd.R_drew HO313.out)
            replace HO316 := Aside0.mk (Kd.R_drew HO316.out)
            replace HO320 := Aside0.mk (Kd.R_drew HO320.out)
            replace HO323 := Aside0.mk (Kd.R_drew HO323.out)
            replace HO327 := Aside0.mk (Kd.R_drew HO327.out)
            replace HO330 := Aside0.mk (Kd.R_drew HO330.out)
            replace HO335 := Aside0.mk (Kd.R_drew HO335.out)
            replace HO338 := Aside0.mk (Kd.R_drew HO338.out)
            replace BK301 := Aside0.mk (blk_drew BK301.out)
            replace BK302 := Aside0.mk (blk_drew BK302.out)
            replace BK324 := Aside0.mk (blk_drew BK324.out)
            replace BK331 := Aside0.mk (blk_drew BK331.out)
            replace HB := Aside0.mk (below_drew1 HB.out)
            refine start_ (n := 5) (S := fun w' => w'.cell? ⟨gb331, 0, none⟩ = some (.slice Ao136 t325.length co136) ∧ w'.cell? ⟨gb331, 1, none⟩ = some (.slice Ao141 t328.length co141) ∧ w'.cell? ⟨gb302, 0, none⟩ = some (.slice A1_0 l1_0.length c1_0) ∧ w'.cell? ⟨gb302, 1, none⟩ = some (.slice A1_1 l1_1.length c1_1)) (ds := []) #[false, false, false, false, false] (by kernel_rfl) rfl rfl ⟨(blk_cell BK331.out 0).trans rfl, (blk_cell BK331.out 1).trans rfl, (blk_cell BK302.out 0).trans rfl, (blk_cell BK302.out 1).trans rfl⟩ (fun hHeld => ?_)
            generalize w148.drew = w149 at HO307 HO310 HO313 HO316 HO320 HO323 HO327 HO330 HO335 HO338 BK301 BK302 BK324 BK331 HB hHeld ⊢
            refine take_ (i := 0) (N := some 40) (v := ?_) (a' := ?_) #[true, false, false, false, false] rfl rfl (by kernel_rfl) (fun _ _ _ h => h) (Or.inl ⟨by rfl, ?_⟩) hHeld ?_ ?_
            rotate_left
            · rintro w' ⟨s0, s1, s2, s3⟩
              go_simp
              with_reducible rfl
            rotate_left
            · simp only [Act.put, List.setIfInBounds_toArray, List.set_cons_zero, List.set_cons_succ, i64_w, i32_w]
              rfl
            refine take_ (i := 1) (N := some 41) (v := ?_) (a' := ?_) #[true, true, false, false, false] rfl rfl (by kernel_rfl) (fun _ _ _ h => h) (Or.inl ⟨by rfl, ?_⟩) hHeld ?_ ?_
            rotate_left
            · rintro w' ⟨s0, s1, s2, s3⟩
              go_simp
              with_reducible rfl
            rotate_left
            · simp only [Act.put, List.setIfInBounds_toArray, List.set_cons_zero, List.set_cons_succ, i64_w, i32_w]
              rfl
            refine one_ (i := 2) (N := some 42) #[true, true, true, false, false] rfl rfl (by kernel_rfl) (by decide) (fun K hK => ?_)
            refine goes_ Try.func31 (by kernel_rfl) rfl #[.agg #[.slice A1_0 l1_0.length c1_0, .slice A1_1 l1_1.length c1_1]] (by rfl) rfl rfl Kit.am ?_
            with_reducible refine (laws_toCache.calls k _ _ l1_0 _ _ l1_1 t340 t343 _ ?side1 ?side2 ?side3 ?side4 A63.out).mono ?_
            (case side1 => exact Kit.cr HR1_0.out HB.out)
            (case side2 => exact HC1_0.out)
            (case side3 => exact Kit.cr HR1_1.out HB.out)
            (case side4 => exact HC1_1.out)
            rintro e w150 ⟨v341, v344, rfl, ho0, ho1, hb⟩
            refine ⟨_, rfl, ?_⟩
            have HO342 := Aside0.mk (Kd.R_lower (Kd.R_new' (Kd.R_new' (Kd.R_new' (Kd.R_new' (Kd.R_new' ho0 (Kd.R_lt (Kit.rx HO307.out))) (Kd.R_lt (Kit.rx HO313.out))) (Kd.R_lt (Kit.rx HO320.out))) (Kd.R_lt (Kit.rx HO327.out))) (Kd.R_lt (Kit.rx HO335.out))) Kit.bz)
            replace HO307 := Aside0.mk (Kd.R_elder' (Kit.rx HO307.out) (Kd.R_base ho0) hb)
            replace HO313 := Aside0.mk (Kd.R_elder' (Kit.rx HO313.out) (Kd.R_base ho0) hb)
            replace HO320 := Aside0.mk (Kd.R_elder' (Kit.rx HO320.out) (Kd.R_base ho0) hb)
            replace HO327 := Aside0.mk (Kd.R_elder' (Kit.rx HO327.out) (Kd.R_base ho0) hb)
            replace HO335 := Aside0.mk (Kd.R_elder' (Kit.rx HO335.out) (Kd.R_base ho0) hb)
            have HO345 := Aside0.mk (Kd.R_lower (Kd.R_new' (Kd.R_new' (Kd.R_new' (Kd.R_new' (Kd.R_new' ho1 (Kd.R_lt (Kit.rx HO310.out))) (Kd.R_lt (Kit.rx HO316.out))) (Kd.R_lt (Kit.rx HO323.out))) (Kd.R_lt (Kit.rx HO330.out))) (Kd.R_lt (Kit.rx HO338.out))) Kit.bz)
            replace HO310 := Aside0.mk (Kd.R_elder' (Kit.rx HO310.out) (Kd.R_base ho1) hb)
            replace HO316 := Aside0.mk (Kd.R_elder' (Kit.rx HO316.out) (Kd.R_base ho1) hb)
            replace HO323 := Aside0.mk (Kd.R_elder' (Kit.rx HO323.out) (Kd.R_base ho1) hb)
            replace HO330 := Aside0.mk (Kd.R_elder' (Kit.rx HO330.out) (Kd.R_base ho1) hb)
            replace HO338 := Aside0.mk (Kd.R_elder' (Kit.rx HO338.out) (Kd.R_base ho1) hb)
            replace BK301 := Kit.bB BK301 hb
            replace BK302 := Kit.bB BK302 hb
            replace BK324 := Kit.bB BK324 hb
            replace BK331 := Kit.bB BK331 hb
            replace HB := Kit.hB hb
            (try clear hb)
            (try clear hb2)
            (try clear hk)
            (try clear hi)
            (try clear ho0)
            (try clear ho1)
            obtain ⟨Ao151, co151, eo151⟩ := Kd.R_slice HO342.out
            (first | subst eo151 | (injection eo151 with f1_ f2_ f3_; have f4_ := f1_.symm; have f5_ := f3_.symm; clear f1_ f2_ f3_; subst f4_; subst f5_))
            obtain ⟨Ao152, co152, eo152⟩ := Kd.R_slice HO345.out
            (first | subst eo152 | (injection eo152 with f1_ f2_ f3_; have f4_ := f1_.symm; have f5_ := f3_.symm; clear f1_ f2_ f3_; subst f4_; subst f5_))
            refine hK.out _ _ ⟨(blk_cell BK331.out 0).trans rfl, (blk_cell BK331.out 1).trans rfl, (blk_cell BK302.out 0).trans rfl, (blk_cell BK302.out 1).trans rfl⟩ (fun hHeld => ?_)
            clear hK K
            refine norm_ (a' := ?_) ?_ ?_
            rotate_left
            · show Act.put _ (some 42) _ = _
              simp only [Act.put, List.setIfInBounds_toArray, List.set_cons_zero, List.set_cons_succ, i64_w, i32_w]
              rfl
            refine one_ (i := 3) (N := some 43) #[true, true, true, true, false] rfl rfl (by kernel_rfl) (by decide) (fun K hK => ?_)
            refine goes_ Try.func33 (by kernel_rfl) rfl #[.agg #[.slice Ao136 t325.length co136, .slice Ao141 t328.length co141], .agg #[.slice Ao151 t340.length co151, .slice Ao152 t343.length co152]] (by rfl) rfl rfl Kit.am ?_
            with_reducible refine (laws_eqCache.calls k _ _ t325 _ _ t328 _ _ t340 _ _ t343 false _ ?side1 ?side2 ?side3 ?side4 ?side5 ?side6 ?side7 ?side8 A64.out).mono ?_
            (case side1 => exact Kit.cx ((Kd.R_reads' HO327.out).2.2))
            (case side2 => exact (Kd.R_reads' HO327.out).2.1)
            (case side3 => exact Kit.cx ((Kd.R_reads' HO330.out).2.2))
            (case side4 => exact (Kd.R_reads' HO330.out).2.1)
            (case side5 => exact Kit.cx ((Kd.R_reads' HO342.out).2.2))
            (case side6 => exact (Kd.R_reads' HO342.out).2.1)
            (case side7 => exact Kit.cx ((Kd.R_reads' HO345.out).2.2))
            (case side8 => exact (Kd.R_reads' HO345.out).2.1)
            rintro e w153 ⟨rfl, hb⟩
            refine ⟨_, rfl, ?_⟩
            replace HO307 := Aside0.mk (Kd.R_below (Kit.rx HO307.out) hb)
            replace HO310 := Aside0.mk (Kd.R_below (Kit.rx HO310.out) hb)
            replace HO313 := Aside0.mk (Kd.R_below (Kit.rx HO313.out) hb)
            replace HO316 := Aside0.mk (Kd.R_below (Kit.rx HO316.out) hb)
            replace HO320 := Aside0.mk (Kd.R_below (Kit.rx HO320.out) hb)
            replace HO323 := Aside0.mk (Kd.R_below (Kit.rx HO323.out) hb)
            replace HO327 := Aside0.mk (Kd.R_below (Kit.rx HO327.out) hb)
            replace HO330 := Aside0.mk (Kd.R_below (Kit.rx HO330.out) hb)
            replace HO335 := Aside0.mk (Kd.R_below (Kit.rx HO335.out) hb)
            replace HO338 := Aside0.mk (Kd.R_below (Kit.rx HO338.out) hb)
            replace HO342 := Aside0.mk (Kd.R_below (Kit.rx HO342.out) hb)
            replace HO345 := Aside0.mk (Kd.R_below (Kit.rx HO345.out) hb)
            replace BK301 := Kit.bB BK301 hb
            replace BK302 := Kit.bB BK302 hb
            replace BK324 := Kit.bB BK324 hb
            replace BK331 := Kit.bB BK331 hb
            replace HB := Kit.hB hb
            (try clear hb)
            (try clear hb2)
            (try clear hk)
            (try clear hi)
            refine hK.out _ _ ⟨(blk_cell BK331.out 0).trans rfl, (blk_cell BK331.out 1).trans rfl, (blk_cell BK302.out 0).trans rfl, (blk_cell BK302.out 1).trans rfl⟩ (fun hHeld => ?_)
            clear hK K
            refine norm_ (a' := ?_) ?_ ?_
            rotate_left
            · show Act.put _ (some 43) _ = _
              simp only [Act.put, List.setIfInBounds_toArray, List.set_cons_zero, List.set_cons_succ, i64_w, i32_w]
              rfl
            refine pure_ (i := 4) (N := some 44) (v := ?_) (a' := ?_) #[true, true, true, true, true] rfl rfl (by kernel_rfl) (fun _ _ _ h => h) (Or.inl ⟨by rfl, ?_⟩) ?_ ?_
            rotate_left
            · intro w'
              go_simp
              with_reducible rfl
            rotate_left
            · simp only [Act.put, List.setIfInBounds_toArray, List.set_cons_zero, List.set_cons_succ, i64_w, i32_w]
              rfl
            refine done_ (by kernel_rfl) ?_
            try go_wp2
            go_ret
            exact ⟨Kit.er, Kit.bl⟩
        · replace c62 := Bool.eq_false_iff.mpr c62
          subst c62
          have H1 : (some false) = some r := by rw [if_neg (show ¬ (false = true) by decide)] at H; exact H
          clear H
          have H := H1
          clear H1
          obtain rfl := Option.some.inj H
          go_enter Try.func9, Try.ntmps9
          try go_wp2_with (first | ((with_reducible refine gate_dst (N := 2) rfl ?_); refine box_event ?hg (N := 2) ?hd (cs := #[.slice A0_0 l0_0.length c0_0, .slice A0_1 l0_1.length c0_1]) (t := 56) ?hr ?_; (case hd => rfl); (case hg => rfl); (case hr => exact Kit.hr); intro gb301 hg w154 hbox hb; have BK301 := Aside0.mk (hbox); have GW301 := Kit.gX (w := w) hg; have GE301 := GW301; replace HB := Kit.hB hb; clear hb hbox hg) | ((with_reducible refine gate_dst (N := 3) rfl ?_); refine box_event ?hg (N := 3) ?hd (cs := #[.slice A1_0 l1_0.length c1_0, .slice A1_1 l1_1.length c1_1]) (t := 56) ?hr ?_; (case hd => rfl); (case hg => rfl); (case hr => exact Kit.hr); intro gb302 hg w155 hbox hb; have BK302 := Aside0.mk (hbox); have GW302 := Kit.gX (w := w) hg; have GE302 := GW302; replace HB := Kit.hB hb; have NB301_302 := Aside0.mk (Kit.nlt hg BK301.out); have NB302_301 := Aside0.mk (Kit.ngt hg BK301.out); replace BK301 := Kit.bB BK301 hb; clear hb hbox hg; have hnb156 := NB301_302.out; have hnc156 := NB302_301.out; obtain ⟨hcz157_0, hcz157_1, hfz157_0, hfz157_1⟩ := Kit.c2 BK301.out) | ((with_reducible refine Kit.gate_callee (f := 29) rfl ?_); refine goesL_ (some 12) rfl rfl Try.func29 (by kernel_rfl) rfl #[.agg #[.slice A0_0 l0_0.length c0_0, .slice A0_1 l0_1.length c0_1], .int .i64 1048576] rfl Kit.am ?_; (with_reducible refine (laws_szCache.calls k _ _ l0_0 _ _ l0_1 1048576 t303 _ ?side1 ?side2 ?side3 ?side4 A3.out).mono ?_); (case side1 => exact Kit.cr HR0_0.out HB.out); (case side2 => exact HC0_0.out); (case side3 => exact Kit.cr HR0_1.out HB.out); (case side4 => exact HC0_1.out); rintro e w158 ⟨rfl, hb⟩; refine ⟨_, rfl, ?_⟩; replace BK301 := Kit.bB BK301 hb; replace BK302 := Kit.bB BK302 hb; replace HB := Kit.hB hb; (try clear hb); (try clear hb2); (try clear hk); (try clear hi); obtain ⟨hcz159_0, hcz159_1, hfz159_0, hfz159_1⟩ := Kit.c2 BK302.out) | ((with_reducible refine Kit.gate_callee (f := 29) rfl ?_); refine goesL_ (some 17) rfl rfl Try.func29 (by kernel_rfl) rfl #[.agg #[.slice A1_0 l1_0.length c1_0, .slice A1_1 l1_1.length c1_1], .int .i64 t303] rfl Kit.am ?_; (with_reducible refine (laws_szCache.calls k _ _ l1_0 _ _ l1_1 t303 t304 _ ?side1 ?side2 ?side3 ?side4 A10.out).mono ?_); (case side1 => exact Kit.cr HR1_0.out HB.out); (case side2 => exact HC1_0.out); (case side3 => exact Kit.cr HR1_1.out HB.out); (case side4 => exact HC1_1.out); rintro e w160 ⟨rfl, hb⟩; refine ⟨_, rfl, ?_⟩; replace BK301 := Kit.bB BK301 hb; replace BK302 := Kit.bB BK302 hb; replace HB := Kit.hB hb; (try clear hb); (try clear hb2); (try clear hk); (try clear hi)))
          replace BK301 := Aside0.mk (blk_drew BK301.out)
          replace BK302 := Aside0.mk (blk_drew BK302.out)
          replace HB := Aside0.mk (below_drew1 HB.out)
          refine start_ (n := 6) (S := fun w' => w'.cell? ⟨gb301, 0, none⟩ = some (.slice A0_0 l0_0.length c0_0) ∧ w'.cell? ⟨gb301, 1, none⟩ = some (.slice A0_1 l0_1.length c0_1) ∧ w'.cell? ⟨gb302, 0, none⟩ = some (.slice A1_0 l1_0.length c1_0) ∧ w'.cell? ⟨gb302, 1, none⟩ = some (.slice A1_1 l1_1.length c1_1)) (ds := []) #[false, false, false, false, false, false] (by kernel_rfl) rfl rfl ⟨(blk_cell BK301.out 0).trans rfl, (blk_cell BK301.out 1).trans rfl, (blk_cell BK302.out 0).trans rfl, (blk_cell BK302.out 1).trans rfl⟩ (fun hHeld => ?_)
          generalize w160.drew = w161 at BK301 BK302 HB hHeld ⊢
          refine take_ (i := 0) (N := some 20) (v := ?_) (a' := ?_) #[true, false, false, false, false, false] rfl rfl (by kernel_rfl) (fun _ _ _ h => h) (Or.inl ⟨by rfl, ?_⟩) hHeld ?_ ?_
          rotate_left
          · rintro w' ⟨s0, s1, s2, s3⟩
            go_simp
            with_reducible rfl
          rotate_left
          · simp only [Act.put, List.setIfInBounds_toArray, List.set_cons_zero, List.set_cons_succ, i64_w, i32_w]
            rfl
          refine take_ (i := 2) (N := some 22) (v := ?_) (a' := ?_) #[true, false, true, false, false, false] rfl rfl (by kernel_rfl) (fun _ _ _ h => h) (Or.inl ⟨by rfl, ?_⟩) hHeld ?_ ?_
          rotate_left
          · rintro w' ⟨s0, s1, s2, s3⟩
            go_simp
            with_reducible rfl
          rotate_left
          · simp only [Act.put, List.setIfInBounds_toArray, List.set_cons_zero, List.set_cons_succ, i64_w, i32_w]
            rfl
          refine one_ (i := 1) (N := some 21) #[true, true, true, false, false, false] rfl rfl (by kernel_rfl) (by decide) (fun K hK => ?_)
          refine goes_ Try.func31 (by kernel_rfl) rfl #[.agg #[.slice A0_0 l0_0.length c0_0, .slice A0_1 l0_1.length c0_1]] (by rfl) rfl rfl Kit.am ?_
          with_reducible refine (laws_toCache.calls k _ _ l0_0 _ _ l0_1 t305 t308 _ ?side1 ?side2 ?side3 ?side4 A19.out).mono ?_
          (case side1 => exact Kit.cr HR0_0.out HB.out)
          (case side2 => exact HC0_0.out)
          (case side3 => exact Kit.cr HR0_1.out HB.out)
          (case side4 => exact HC0_1.out)
          rintro e w162 ⟨v306, v309, rfl, ho0, ho1, hb⟩
          refine ⟨_, rfl, ?_⟩
          have HO307 := Aside0.mk (Kd.R_lower ho0 Kit.bz)
          have HO310 := Aside0.mk (Kd.R_lower ho1 Kit.bz)
          replace BK301 := Kit.bB BK301 hb
          replace BK302 := Kit.bB BK302 hb
          replace HB := Kit.hB hb
          (try clear hb)
          (try clear hb2)
          (try clear hk)
          (try clear hi)
          (try clear ho0)
          (try clear ho1)
          refine hK.out _ _ ⟨(blk_cell BK301.out 0).trans rfl, (blk_cell BK301.out 1).trans rfl, (blk_cell BK302.out 0).trans rfl, (blk_cell BK302.out 1).trans rfl⟩ (fun hHeld => ?_)
          clear hK K
          refine norm_ (a' := ?_) ?_ ?_
          rotate_left
          · show Act.put _ (some 21) _ = _
            simp only [Act.put, List.setIfInBounds_toArray, List.set_cons_zero, List.set_cons_succ, i64_w, i32_w]
            rfl
          refine one_ (i := 3) (N := some 23) #[true, true, true, true, false, false] rfl rfl (by kernel_rfl) (by decide) (fun K hK => ?_)
          refine goes_ Try.func31 (by kernel_rfl) rfl #[.agg #[.slice A1_0 l1_0.length c1_0, .slice A1_1 l1_1.length c1_1]] (by rfl) rfl rfl Kit.am ?_
          with_reducible refine (laws_toCache.calls k _ _ l1_0 _ _ l1_1 t311 t314 _ ?side1 ?side2 ?side3 ?side4 A20.out).mono ?_
          (case side1 => exact Kit.cr HR1_0.out HB.out)
          (case side2 => exact HC1_0.out)
          (case side3 => exact Kit.cr HR1_1.out HB.out)
          (case side4 => exact HC1_1.out)
          rintro e w163 ⟨v312, v315, rfl, ho0, ho1, hb⟩
          refine ⟨_, rfl, ?_⟩
          have HO313 := Aside0.mk (Kd.R_lower (Kd.R_new' ho0 (Kd.R_lt (Kit.rx HO307.out))) Kit.bz)
          replace HO307 := Aside0.mk (Kd.R_elder' (Kit.rx HO307.out) (Kd.R_base ho0) hb)
          have HO316 := Aside0.mk (Kd.R_lower (Kd.R_new' ho1 (Kd.R_lt (Kit.rx HO310.out))) Kit.bz)
          replace HO310 := Aside0.mk (Kd.R_elder' (Kit.rx HO310.out) (Kd.R_base ho1) hb)
          replace BK301 := Kit.bB BK301 hb
          replace BK302 := Kit.bB BK302 hb
          replace HB := Kit.hB hb
          (try clear hb)
          (try clear hb2)
          (try clear hk)
          (try clear hi)
          (try clear ho0)
          (try clear ho1)
          obtain ⟨Ao164, co164, eo164⟩ := Kd.R_slice HO307.out
          (first | subst eo164 | (injection eo164 with f1_ f2_ f3_; have f4_ := f1_.symm; have f5_ := f3_.symm; clear f1_ f2_ f3_; subst f4_; subst f5_))
          obtain ⟨Ao165, co165, eo165⟩ := Kd.R_slice HO310.out
          (first | subst eo165 | (injection eo165 with f1_ f2_ f3_; have f4_ := f1_.symm; have f5_ := f3_.symm; clear f1_ f2_ f3_; subst f4_; subst f5_))
          obtain ⟨Ao166, co166, eo166⟩ := Kd.R_slice HO313.out
          (first | subst eo166 | (injection eo166 with f1_ f2_ f3_; have f4_ := f1_.symm; have f5_ := f3_.symm; clear f1_ f2_ f3_; subst f4_; subst f5_))
          obtain ⟨Ao167, co167, eo167⟩ := Kd.R_slice HO316.out
          (first | subst eo167 | (injection eo167 with f1_ f2_ f3_; have f4_ := f1_.symm; have f5_ := f3_.symm; clear f1_ f2_ f3_; subst f4_; subst f5_))
          refine hK.out _ _ ⟨(blk_cell BK301.out 0).trans rfl, (blk_cell BK301.out 1).trans rfl, (blk_cell BK302.out 0).trans rfl, (blk_cell BK302.out 1).trans rfl⟩ (fun hHeld => ?_)
          clear hK K
          refine norm_ (a' := ?_) ?_ ?_
          rotate_left
          · show Act.put _ (some 23) _ = _
            simp only [Act.put, List.setIfInBounds_toArray, List.set_cons_zero, List.set_cons_succ, i64_w, i32_w]
            rfl
          refine one_ (i := 4) (N := some 24) #[true, true, true, true, true, false] rfl rfl (by kernel_rfl) (by decide) (fun K hK => ?_)
          refine goes_ Try.func40 (by kernel_rfl) rfl #[.agg #[.slice Ao164 t305.length co164, .slice Ao165 t308.length co165], .agg #[.slice Ao166 t311.length co166, .slice Ao167 t314.length co167]] (by rfl) rfl rfl Kit.am ?_
          with_reducible refine (spec_SameCache.calls k _ _ t305 _ _ t308 _ _ t311 _ _ t314 t317 _ ?side1 ?side2 ?side3 ?side4 ?side5 ?side6 ?side7 ?side8 A21.out).mono ?_
          (case side1 => exact Kit.cx ((Kd.R_reads' HO307.out).2.2))
          (case side2 => exact (Kd.R_reads' HO307.out).2.1)
          (case side3 => exact Kit.cx ((Kd.R_reads' HO310.out).2.2))
          (case side4 => exact (Kd.R_reads' HO310.out).2.1)
          (case side5 => exact Kit.cx ((Kd.R_reads' HO313.out).2.2))
          (case side6 => exact (Kd.R_reads' HO313.out).2.1)
          (case side7 => exact Kit.cx ((Kd.R_reads' HO316.out).2.2))
          (case side8 => exact (Kd.R_reads' HO316.out).2.1)
          rintro e w168 ⟨rfl, hb⟩
          refine ⟨_, rfl, ?_⟩
          replace HO307 := Aside0.mk (Kd.R_below (Kit.rx HO307.out) hb)
          replace HO310 := Aside0.mk (Kd.R_below (Kit.rx HO310.out) hb)
          replace HO313 := Aside0.mk (Kd.R_below (Kit.rx HO313.out) hb)
          replace HO316 := Aside0.mk (Kd.R_below (Kit.rx HO316.out) hb)
          replace BK301 := Kit.bB BK301 hb
          replace BK302 := Kit.bB BK302 hb
          replace HB := Kit.hB hb
          (try clear hb)
          (try clear hb2)
          (try clear hk)
          (try clear hi)
          refine hK.out _ _ ⟨(blk_cell BK301.out 0).trans rfl, (blk_cell BK301.out 1).trans rfl, (blk_cell BK302.out 0).trans rfl, (blk_cell BK302.out 1).trans rfl⟩ (fun hHeld => ?_)
          clear hK K
          refine norm_ (a' := ?_) ?_ ?_
          rotate_left
          · show Act.put _ (some 24) _ = _
            simp only [Act.put, List.setIfInBounds_toArray, List.set_cons_zero, List.set_cons_succ, i64_w, i32_w]
            rfl
          refine pure_ (i := 5) (N := some 6) (v := ?_) (a' := ?_) #[true, true, true, true, true, true] rfl rfl (by kernel_rfl) (fun _ _ _ h => h) (Or.inl ⟨by rfl, ?_⟩) ?_ ?_
          rotate_left
          · intro w'
            go_simp
            with_reducible rfl
          rotate_left
          · simp only [Act.put, List.setIfInBounds_toArray, List.set_cons_zero, List.set_cons_succ, i64_w, i32_w]
            rfl
          refine done_ (by kernel_rfl) ?_
          obtain ⟨hcz169_0, hcz169_1, hfz169_0, hfz169_1⟩ := Kit.c2 BK301.out
          try go_wp2_with (first | ((with_reducible refine Kit.gate_callee (f := 31) rfl ?_); refine goesL_ (some 26) rfl rfl Try.func31 (by kernel_rfl) rfl #[.agg #[.slice A0_0 l0_0.length c0_0, .slice A0_1 l0_1.length c0_1]] rfl Kit.am ?_; (with_reducible refine (laws_toCache.calls k _ _ l0_0 _ _ l0_1 t318 t321 _ ?side1 ?side2 ?side3 ?side4 A22.out).mono ?_); (case side1 => exact Kit.cr HR0_0.out HB.out); (case side2 => exact HC0_0.out); (case side3 => exact Kit.cr HR0_1.out HB.out); (case side4 => exact HC0_1.out); rintro e w170 ⟨v319, v322, rfl, ho0, ho1, hb⟩; refine ⟨_, rfl, ?_⟩; have one_v319 : (v319 : Value).oneCell' = true := Kit.ov0; have one_v322 : (v322 : Value).oneCell' = true := Kit.ov1; have HO320 := Aside0.mk (Kd.R_lower (Kd.R_new' (Kd.R_new' ho0 (Kd.R_lt (Kit.rx HO307.out))) (Kd.R_lt (Kit.rx HO313.out))) Kit.bz); replace HO307 := Aside0.mk (Kd.R_elder' (Kit.rx HO307.out) (Kd.R_base ho0) hb); replace HO313 := Aside0.mk (Kd.R_elder' (Kit.rx HO313.out) (Kd.R_base ho0) hb); have HO323 := Aside0.mk (Kd.R_lower (Kd.R_new' (Kd.R_new' ho1 (Kd.R_lt (Kit.rx HO310.out))) (Kd.R_lt (Kit.rx HO316.out))) Kit.bz); replace HO310 := Aside0.mk (Kd.R_elder' (Kit.rx HO310.out) (Kd.R_base ho1) hb); replace HO316 := Aside0.mk (Kd.R_elder' (Kit.rx HO316.out) (Kd.R_base ho1) hb); replace BK301 := Kit.bB BK301 hb; replace BK302 := Kit.bB BK302 hb; replace HB := Kit.hB hb; (try clear hb); (try clear hb2); (try clear hk); (try clear hi); (try clear ho0); (try clear ho1)) | ((with_reducible refine gate_dst (N := 7) rfl ?_); refine box_event ?hg (N := 7) ?hd (cs := #[.slice none 0 0, .slice none 0 0]) (t := 62) ?hr ?_; (case hd => rfl); (case hg => rfl); (case hr => exact Kit.hr); intro gb324 hg w171 hbox hb; replace HO307 := Aside0.mk (Kd.R_below (Kit.rx HO307.out) hb); replace HO310 := Aside0.mk (Kd.R_below (Kit.rx HO310.out) hb); replace HO313 := Aside0.mk (Kd.R_below (Kit.rx HO313.out) hb); replace HO316 := Aside0.mk (Kd.R_below (Kit.rx HO316.out) hb); replace HO320 := Aside0.mk (Kd.R_below (Kit.rx HO320.out) hb); replace HO323 := Aside0.mk (Kd.R_below (Kit.rx HO323.out) hb); have BK324 := Aside0.mk (hbox); have GW324 := Kit.gX (w := w) hg; have GE324 := GW324; replace HB := Kit.hB hb; have NB301_324 := Aside0.mk (Kit.nlt hg BK301.out); have NB324_301 := Aside0.mk (Kit.ngt hg BK301.out); replace BK301 := Kit.bB BK301 hb; have NB302_324 := Aside0.mk (Kit.nlt hg BK302.out); have NB324_302 := Aside0.mk (Kit.ngt hg BK302.out); replace BK302 := Kit.bB BK302 hb; clear hb hbox hg; obtain ⟨Ao172, co172, eo172⟩ := Kd.R_slice HO320.out; subst eo172; have hnb173 := NB324_301.out; have hnc173 := NB301_324.out; have hnb174 := NB324_302.out; have hnc174 := NB302_324.out; obtain ⟨hcz175_0, hcz175_1, hfz175_0, hfz175_1⟩ := Kit.c2 BK324.out; obtain ⟨Ao176, co176, eo176⟩ := Kd.R_slice HO323.out; subst eo176; obtain ⟨hcz177_0, hcz177_1, hfz177_0, hfz177_1⟩ := Kit.c2 BK302.out) | ((with_reducible refine Kit.gate_callee (f := 31) rfl ?_); refine goesL_ (some 28) rfl rfl Try.func31 (by kernel_rfl) rfl #[.agg #[.slice A1_0 l1_0.length c1_0, .slice A1_1 l1_1.length c1_1]] rfl Kit.am ?_; (with_reducible refine (laws_toCache.calls k _ _ l1_0 _ _ l1_1 t325 t328 _ ?side1 ?side2 ?side3 ?side4 A23.out).mono ?_); (case side1 => exact Kd.C_below HR1_0.out Kit.bl); (case side2 => exact HC1_0.out); (case side3 => exact Kd.C_below HR1_1.out Kit.bl); (case side4 => exact HC1_1.out); rintro e w178 ⟨v326, v329, rfl, ho0, ho1, hb⟩; refine ⟨_, rfl, ?_⟩; have one_v326 : (v326 : Value).oneCell' = true := Kit.ov0; have one_v329 : (v329 : Value).oneCell' = true := Kit.ov1; have n0_ := Aside0.mk (Kd.R_elder' (Kit.rf HO307.out BK324.out) (Kd.R_base ho0) hb); have n1_ := Aside0.mk (Kd.R_elder' (Kit.rf HO310.out BK324.out) (Kd.R_base ho1) hb); have n2_ := Aside0.mk (Kd.R_elder' (Kit.rf HO313.out BK324.out) (Kd.R_base ho0) hb); have n3_ := Aside0.mk (Kd.R_elder' (Kit.rf HO316.out BK324.out) (Kd.R_base ho1) hb); have n4_ := Aside0.mk (Kd.R_elder' (Kit.rf HO320.out BK324.out) (Kd.R_base ho0) hb); have n5_ := Aside0.mk (Kd.R_elder' (Kit.rf HO323.out BK324.out) (Kd.R_base ho1) hb); have n6_ := Aside0.mk (Kd.R_lower (Kd.R_new' (Kd.R_new' (Kd.R_new' ho0 (Kd.R_lt (Kit.rf HO307.out BK324.out))) (Kd.R_lt (Kit.rf HO313.out BK324.out))) (Kd.R_lt (Kit.rf HO320.out BK324.out))) Kit.bz); have n7_ := Aside0.mk (Kd.R_lower (Kd.R_new' (Kd.R_new' (Kd.R_new' ho1 (Kd.R_lt (Kit.rf HO310.out BK324.out))) (Kd.R_lt (Kit.rf HO316.out BK324.out))) (Kd.R_lt (Kit.rf HO323.out BK324.out))) Kit.bz); have n8_ := Aside0.mk (Kit.bf BK301.out hb); have n9_ := Aside0.mk (Kit.bf BK302.out hb); have n10_ := Aside0.mk (blk_below (g := gb324) (o := .cells #[.slice Ao172 t318.length co172, .slice Ao176 t321.length co176] 62 (0, 0)) (by (with_reducible repeat (first | refine blk_drewN ?_ _ | refine blk_drew ?_ | refine blk_alloc ?_ _)); refine blk_put (cs := #[.slice Ao172 t318.length co172, .slice none 0 0]) ?_ 1 _ rfl; (with_reducible repeat (first | refine blk_drewN ?_ _ | refine blk_drew ?_ | refine blk_alloc ?_ _)); refine blk_put (cs := #[.slice none 0 0, .slice none 0 0]) ?_ 0 _ rfl; (with_reducible repeat (first | refine blk_drewN ?_ _ | refine blk_drew ?_ | refine blk_alloc ?_ _)); exact BK324.out) hb); have n11_ := Kit.hB hb; clear HO307; clear HO310; clear HO313; clear HO316; clear HO320; clear HO323; clear BK301; clear BK302; clear BK324; clear HB; have HO307 := n0_; have HO310 := n1_; have HO313 := n2_; have HO316 := n3_; have HO320 := n4_; have HO323 := n5_; have HO327 := n6_; have HO330 := n7_; have BK301 := n8_; have BK302 := n9_; have BK324 := n10_; have HB := n11_; clear n0_ n1_ n2_ n3_ n4_ n5_ n6_ n7_ n8_ n9_ n10_ n11_; (try clear hb); (try clear hb2); (try clear hk); (try clear hi); (try clear ho0); (try clear ho1)) | ((with_reducible refine gate_dst (N := 8) rfl ?_); refine box_event ?hg (N := 8) ?hd (cs := #[.slice none 0 0, .slice none 0 0]) (t := 62) ?hr ?_; (case hd => rfl); (case hg => rfl); (case hr => exact Kit.hr); intro gb331 hg w179 hbox hb; replace HO307 := Aside0.mk (Kd.R_below (Kit.rx HO307.out) hb); replace HO310 := Aside0.mk (Kd.R_below (Kit.rx HO310.out) hb); replace HO313 := Aside0.mk (Kd.R_below (Kit.rx HO313.out) hb); replace HO316 := Aside0.mk (Kd.R_below (Kit.rx HO316.out) hb); replace HO320 := Aside0.mk (Kd.R_below (Kit.rx HO320.out) hb); replace HO323 := Aside0.mk (Kd.R_below (Kit.rx HO323.out) hb); replace HO327 := Aside0.mk (Kd.R_below (Kit.rx HO327.out) hb); replace HO330 := Aside0.mk (Kd.R_below (Kit.rx HO330.out) hb); have BK331 := Aside0.mk (hbox); have GW331 := Kit.gX (w := w) hg; have GE331 := GW331; replace HB := Kit.hB hb; have NB301_331 := Aside0.mk (Kit.nlt hg BK301.out); have NB331_301 := Aside0.mk (Kit.ngt hg BK301.out); replace BK301 := Kit.bB BK301 hb; have NB302_331 := Aside0.mk (Kit.nlt hg BK302.out); have NB331_302 := Aside0.mk (Kit.ngt hg BK302.out); replace BK302 := Kit.bB BK302 hb; have NB324_331 := Aside0.mk (Kit.nlt hg BK324.out); have NB331_324 := Aside0.mk (Kit.ngt hg BK324.out); replace BK324 := Kit.bB BK324 hb; clear hb hbox hg; obtain ⟨Ao180, co180, eo180⟩ := Kd.R_slice HO327.out; subst eo180; have hnb181 := NB331_301.out; have hnc181 := NB301_331.out; have hnb182 := NB331_302.out; have hnc182 := NB302_331.out; have hnb183 := NB331_324.out; have hnc183 := NB324_331.out; obtain ⟨hcz184_0, hcz184_1, hfz184_0, hfz184_1⟩ := Kit.c2 BK331.out; obtain ⟨Ao185, co185, eo185⟩ := Kd.R_slice HO330.out; subst eo185; obtain ⟨hcz186_0, hcz186_1, hfz186_0, hfz186_1⟩ := Kit.c2 BK324.out) | ((with_reducible refine Kit.gate_callee (f := 41) rfl ?_); refine goesL_ (some 31) rfl rfl Try.func41 (by kernel_rfl) rfl #[.agg #[.slice Ao172 t318.length co172, .slice Ao176 t321.length co176], .agg #[.slice Ao180 t325.length co180, .slice Ao185 t328.length co185]] rfl Kit.am ?_; (with_reducible refine (impl_SameCache.calls k _ _ t318 _ _ t321 _ _ t325 _ _ t328 t332 _ ?side1 ?side2 ?side3 ?side4 ?side5 ?side6 ?side7 ?side8 A24.out).mono ?_); (case side1 => refine (Kd.R_reads' (e := 97) (base := w.heap.size) (ok := fun k_ => (((True ∧ some k_ ≠ (.slice Ao164 t305.length co164 : Value).ownBlock) ∧ some k_ ≠ (.slice Ao166 t311.length co166 : Value).ownBlock) ∧ some k_ ≠ (.slice Ao180 t325.length co180 : Value).ownBlock)) (n := t318.length) (c := co172) ?_).2.2; exact (Kit.rf HO320.out BK331.out)); (case side2 => exact (Kd.R_reads' HO320.out).2.1); (case side3 => refine (Kd.R_reads' (e := 89) (base := w.heap.size) (ok := fun k_ => (((True ∧ some k_ ≠ (.slice Ao165 t308.length co165 : Value).ownBlock) ∧ some k_ ≠ (.slice Ao167 t314.length co167 : Value).ownBlock) ∧ some k_ ≠ (.slice Ao185 t328.length co185 : Value).ownBlock)) (n := t321.length) (c := co176) ?_).2.2; exact (Kit.rf HO323.out BK331.out)); (case side4 => exact (Kd.R_reads' HO323.out).2.1); (case side5 => refine (Kd.R_reads' (e := 97) (base := w.heap.size) (ok := fun k_ => (((True ∧ some k_ ≠ (.slice Ao164 t305.length co164 : Value).ownBlock) ∧ some k_ ≠ (.slice Ao166 t311.length co166 : Value).ownBlock) ∧ some k_ ≠ (.slice Ao172 t318.length co172 : Value).ownBlock)) (n := t325.length) (c := co180) ?_).2.2; exact (Kit.rf HO327.out BK331.out)); (case side6 => exact (Kd.R_reads' HO327.out).2.1); (case side7 => refine (Kd.R_reads' (e := 89) (base := w.heap.size) (ok := fun k_ => (((True ∧ some k_ ≠ (.slice Ao165 t308.length co165 : Value).ownBlock) ∧ some k_ ≠ (.slice Ao167 t314.length co167 : Value).ownBlock) ∧ some k_ ≠ (.slice Ao176 t321.length co176 : Value).ownBlock)) (n := t328.length) (c := co185) ?_).2.2; exact (Kit.rf HO330.out BK331.out)); (case side8 => exact (Kd.R_reads' HO330.out).2.1); rintro e w187 ⟨rfl, hb⟩; refine ⟨_, rfl, ?_⟩; have n0_ := Aside0.mk (Kd.R_below (Kit.rf HO307.out BK331.out) hb); have n1_ := Aside0.mk (Kd.R_below (Kit.rf HO310.out BK331.out) hb); have n2_ := Aside0.mk (Kd.R_below (Kit.rf HO313.out BK331.out) hb); have n3_ := Aside0.mk (Kd.R_below (Kit.rf HO316.out BK331.out) hb); have n4_ := Aside0.mk (Kd.R_below (Kit.rf HO320.out BK331.out) hb); have n5_ := Aside0.mk (Kd.R_below (Kit.rf HO323.out BK331.out) hb); have n6_ := Aside0.mk (Kd.R_below (Kit.rf HO327.out BK331.out) hb); have n7_ := Aside0.mk (Kd.R_below (Kit.rf HO330.out BK331.out) hb); have n8_ := Aside0.mk (Kit.bf BK301.out hb); have n9_ := Aside0.mk (Kit.bf BK302.out hb); have n10_ := Aside0.mk (Kit.bf BK324.out hb); have n11_ := Aside0.mk (blk_below (g := gb331) (o := .cells #[.slice Ao180 t325.length co180, .slice Ao185 t328.length co185] 62 (0, 0)) (by (with_reducible repeat (first | refine blk_drewN ?_ _ | refine blk_drew ?_ | refine blk_alloc ?_ _)); refine blk_put (cs := #[.slice Ao180 t325.length co180, .slice none 0 0]) ?_ 1 _ rfl; (with_reducible repeat (first | refine blk_drewN ?_ _ | refine blk_drew ?_ | refine blk_alloc ?_ _)); refine blk_put (cs := #[.slice none 0 0, .slice none 0 0]) ?_ 0 _ rfl; (with_reducible repeat (first | refine blk_drewN ?_ _ | refine blk_drew ?_ | refine blk_alloc ?_ _)); exact BK331.out) hb); have n12_ := Kit.hB hb; clear HO307; clear HO310; clear HO313; clear HO316; clear HO320; clear HO323; clear HO327; clear HO330; clear BK301; clear BK302; clear BK324; clear BK331; clear HB; have HO307 := n0_; have HO310 := n1_; have HO313 := n2_; have HO316 := n3_; have HO320 := n4_; have HO323 := n5_; have HO327 := n6_; have HO330 := n7_; have BK301 := n8_; have BK302 := n9_; have BK324 := n10_; have BK331 := n11_; have HB := n12_; clear n0_ n1_ n2_ n3_ n4_ n5_ n6_ n7_ n8_ n9_ n10_ n11_ n12_; (try clear hb); (try clear hb2); (try clear hk); (try clear hi)))
          have n0_ := Aside0.mk (Kd.R_drew HO307.out)
          have n1_ := Aside0.mk (Kd.R_drew HO310.out)
          have n2_ := Aside0.mk (Kd.R_drew HO313.out)
          have n3_ := Aside0.mk (Kd.R_drew HO316.out)
          have n4_ := Aside0.mk (Kd.R_drew HO320.out)
          have n5_ := Aside0.mk (Kd.R_drew HO323.out)
          have n6_ := Aside0.mk (Kd.R_drew HO327.out)
          have n7_ := Aside0.mk (Kd.R_drew HO330.out)
          have n8_ := Aside0.mk (blk_drew BK301.out)
          have n9_ := Aside0.mk (blk_drew BK302.out)
          have n10_ := Aside0.mk (blk_drew BK324.out)
          have n11_ := Aside0.mk (blk_drew BK331.out)
          have n12_ := Aside0.mk (below_drew1 HB.out)
          clear HO307
          clear HO310
          clear HO313
          clear HO316
          clear HO320
          clear HO323
          clear HO327
          clear HO330
          clear BK301
          clear BK302
          clear BK324
          clear BK331
          clear HB
          have HO307 := n0_
          have HO310 := n1_
          have HO313 := n2_
          have HO316 := n3_
          have HO320 := n4_
          have HO323 := n5_
          have HO327 := n6_
          have HO330 := n7_
          have BK301 := n8_
          have BK302 := n9_
          have BK324 := n10_
          have BK331 := n11_
          have HB := n12_
          clear n0_ n1_ n2_ n3_ n4_ n5_ n6_ n7_ n8_ n9_ n10_ n11_ n12_
          refine start_ (n := 5) (S := fun w' => w'.cell? ⟨gb324, 0, none⟩ = some (.slice Ao172 t318.length co172) ∧ w'.cell? ⟨gb324, 1, none⟩ = some (.slice Ao176 t321.length co176) ∧ w'.cell? ⟨gb301, 0, none⟩ = some (.slice A0_0 l0_0.length c0_0) ∧ w'.cell? ⟨gb301, 1, none⟩ = some (.slice A0_1 l0_1.length c0_1)) (ds := []) #[false, false, false, false, false] (by kernel_rfl) rfl rfl ⟨(blk_cell BK324.out 0).trans rfl, (blk_cell BK324.out 1).trans rfl, (blk_cell BK301.out 0).trans rfl, (blk_cell BK301.out 1).trans rfl⟩ (fun hHeld => ?_)
          generalize w187.drew = w188 at HO307 HO310 HO313 HO316 HO320 HO323 HO327 HO330 BK301 BK302 BK324 BK331 HB hHeld ⊢
          refine take_ (i := 0) (N := some 35) (v := ?_) (a' := ?_) #[true, false, false, false, false] rfl rfl (by kernel_rfl) (fun _ _ _ h => h) (Or.inl ⟨by rfl, ?_⟩) hHeld ?_ ?_
          rotate_left
          · rintro w' ⟨s0, s1, s2, s3⟩
            go_simp
            with_reducible rfl
          rotate_left
          · simp only [Act.put, List.setIfInBounds_toArray, List.set_cons_zero, List.set_cons_succ, i64_w, i32_w]
            rfl
          refine take_ (i := 1) (N := some 36) (v := ?_) (a' := ?_) #[true, true, false, false, false] rfl rfl (by kernel_rfl) (fun _ _ _ h => h) (Or.inl ⟨by rfl, ?_⟩) hHeld ?_ ?_
          rotate_left
          · rintro w' ⟨s0, s1, s2, s3⟩
            go_simp
            with_reducible rfl
          rotate_left
          · simp only [Act.put, List.setIfInBounds_toArray, List.set_cons_zero, List.set_cons_succ, i64_w, i32_w]
            rfl
          refine one_ (i := 2) (N := some 37) #[true, true, true, false, false] rfl rfl (by kernel_rfl) (by decide) (fun K hK => ?_)
          refine goes_ Try.func31 (by kernel_rfl) rfl #[.agg #[.slice A0_0 l0_0.length c0_0, .slice A0_1 l0_1.length c0_1]] (by rfl) rfl rfl Kit.am ?_
          with_reducible refine (laws_toCache.calls k _ _ l0_0 _ _ l0_1 t333 t336 _ ?side1 ?side2 ?side3 ?side4 A60.out).mono ?_
          (case side1 => exact Kit.cr HR0_0.out HB.out)
          (case side2 => exact HC0_0.out)
          (case side3 => exact Kit.cr HR0_1.out HB.out)
          (case side4 => exact HC0_1.out)
          rintro e w189 ⟨v334, v337, rfl, ho0, ho1, hb⟩
          refine ⟨_, rfl, ?_⟩
          have HO335 := Aside0.mk (Kd.R_lower (Kd.R_new' (Kd.R_new' (Kd.R_new' (Kd.R_new' ho0 (Kd.R_lt (Kit.rx HO307.out))) (Kd.R_lt (Kit.rx HO313.out))) (Kd.R_lt (Kit.rx HO320.out))) (Kd.R_lt (Kit.rx HO327.out))) Kit.bz)
          replace HO307 := Aside0.mk (Kd.R_elder' (Kit.rx HO307.out) (Kd.R_base ho0) hb)
          replace HO313 := Aside0.mk (Kd.R_elder' (Kit.rx HO313.out) (Kd.R_base ho0) hb)
          replace HO320 := Aside0.mk (Kd.R_elder' (Kit.rx HO320.out) (Kd.R_base ho0) hb)
          replace HO327 := Aside0.mk (Kd.R_elder' (Kit.rx HO327.out) (Kd.R_base ho0) hb)
          have HO338 := Aside0.mk (Kd.R_lower (Kd.R_new' (Kd.R_new' (Kd.R_new' (Kd.R_new' ho1 (Kd.R_lt (Kit.rx HO310.out))) (Kd.R_lt (Kit.rx HO316.out))) (Kd.R_lt (Kit.rx HO323.out))) (Kd.R_lt (Kit.rx HO330.out))) Kit.bz)
          replace HO310 := Aside0.mk (Kd.R_elder' (Kit.rx HO310.out) (Kd.R_base ho1) hb)
          replace HO316 := Aside0.mk (Kd.R_elder' (Kit.rx HO316.out) (Kd.R_base ho1) hb)
          replace HO323 := Aside0.mk (Kd.R_elder' (Kit.rx HO323.out) (Kd.R_base ho1) hb)
          replace HO330 := Aside0.mk (Kd.R_elder' (Kit.rx HO330.out) (Kd.R_base ho1) hb)
          replace BK301 := Kit.bB BK301 hb
          replace BK302 := Kit.bB BK302 hb
          replace BK324 := Kit.bB BK324 hb
          replace BK331 := Kit.bB BK331 hb
          replace HB := Kit.hB hb
          (try clear hb)
          (try clear hb2)
          (try clear hk)
          (try clear hi)
          (try clear ho0)
          (try clear ho1)
          obtain ⟨Ao190, co190, eo190⟩ := Kd.R_slice HO335.out
          (first | subst eo190 | (injection eo190 with f1_ f2_ f3_; have f4_ := f1_.symm; have f5_ := f3_.symm; clear f1_ f2_ f3_; subst f4_; subst f5_))
          obtain ⟨Ao191, co191, eo191⟩ := Kd.R_slice HO338.out
          (first | subst eo191 | (injection eo191 with f1_ f2_ f3_; have f4_ := f1_.symm; have f5_ := f3_.symm; clear f1_ f2_ f3_; subst f4_; subst f5_))
          refine hK.out _ _ ⟨(blk_cell BK324.out 0).trans rfl, (blk_cell BK324.out 1).trans rfl, (blk_cell BK301.out 0).trans rfl, (blk_cell BK301.out 1).trans rfl⟩ (fun hHeld => ?_)
          clear hK K
          refine norm_ (a' := ?_) ?_ ?_
          rotate_left
          · show Act.put _ (some 37) _ = _
            simp only [Act.put, List.setIfInBounds_toArray, List.set_cons_zero, List.set_cons_succ, i64_w, i32_w]
            rfl
          refine one_ (i := 3) (N := some 38) #[true, true, true, true, false] rfl rfl (by kernel_rfl) (by decide) (fun K hK => ?_)
          refine goes_ Try.func33 (by kernel_rfl) rfl #[.agg #[.slice Ao172 t318.length co172, .slice Ao176 t321.length co176], .agg #[.slice Ao190 t333.length co190, .slice Ao191 t336.length co191]] (by rfl) rfl rfl Kit.am ?_
          with_reducible refine (laws_eqCache.calls k _ _ t318 _ _ t321 _ _ t333 _ _ t336 false _ ?side1 ?side2 ?side3 ?side4 ?side5 ?side6 ?side7 ?side8 A61.out).mono ?_
          (case side1 => exact Kit.cx ((Kd.R_reads' HO320.out).2.2))
          (case side2 => exact (Kd.R_reads' HO320.out).2.1)
          (case side3 => exact Kit.cx ((Kd.R_reads' HO323.out).2.2))
          (case side4 => exact (Kd.R_reads' HO323.out).2.1)
          (case side5 => exact Kit.cx ((Kd.R_reads' HO335.out).2.2))
          (case side6 => exact (Kd.R_reads' HO335.out).2.1)
          (case side7 => exact Kit.cx ((Kd.R_reads' HO338.out).2.2))
          (case side8 => exact (Kd.R_reads' HO338.out).2.1)
          rintro e w192 ⟨rfl, hb⟩
          refine ⟨_, rfl, ?_⟩
          replace HO307 := Aside0.mk (Kd.R_below (Kit.rx HO307.out) hb)
          replace HO310 := Aside0.mk (Kd.R_below (Kit.rx HO310.out) hb)
          replace HO313 := Aside0.mk (Kd.R_below (Kit.rx HO313.out) hb)
          replace HO316 := Aside0.mk (Kd.R_below (Kit.rx HO316.out) hb)
          replace HO320 := Aside0.mk (Kd.R_below (Kit.rx HO320.out) hb)
          replace HO323 := Aside0.mk (Kd.R_below (Kit.rx HO323.out) hb)
          replace HO327 := Aside0.mk (Kd.R_below (Kit.rx HO327.out) hb)
          replace HO330 := Aside0.mk (Kd.R_below (Kit.rx HO330.out) hb)
          replace HO335 := Aside0.mk (Kd.R_below (Kit.rx HO335.out) hb)
          replace HO338 := Aside0.mk (Kd.R_below (Kit.rx HO338.out) hb)
          replace BK301 := Kit.bB BK301 hb
          replace BK302 := Kit.bB BK302 hb
          replace BK324 := Kit.bB BK324 hb
          replace BK331 := Kit.bB BK331 hb
          replace HB := Kit.hB hb
          (try clear hb)
          (try clear hb2)
          (try clear hk)
          (try clear hi)
          refine hK.out _ _ ⟨(blk_cell BK324.out 0).trans rfl, (blk_cell BK324.out 1).trans rfl, (blk_cell BK301.out 0).trans rfl, (blk_cell BK301.out 1).trans rfl⟩ (fun hHeld => ?_)
          clear hK K
          refine norm_ (a' := ?_) ?_ ?_
          rotate_left
          · show Act.put _ (some 38) _ = _
            simp only [Act.put, List.setIfInBounds_toArray, List.set_cons_zero, List.set_cons_succ, i64_w, i32_w]
            rfl
          refine pure_ (i := 4) (N := some 39) (v := ?_) (a' := ?_) #[true, true, true, true, true] rfl rfl (by kernel_rfl) (fun _ _ _ h => h) (Or.inl ⟨by rfl, ?_⟩) ?_ ?_
          rotate_left
          · intro w'
            go_simp
            with_reducible rfl
          rotate_left
          · simp only [Act.put, List.setIfInBounds_toArray, List.set_cons_zero, List.set_cons_succ, i64_w, i32_w]
            rfl
          refine done_ (by kernel_rfl) ?_
          try go_wp2
          go_ret
          exact ⟨Kit.er, Kit.bl⟩

/-- THE ONE PURE STATEMENT of laws_FnExactSameCache. -/
def laws_FnExactSameCache.Pure : Prop := ∀ (x0 : S56) (x1 : S56), F56 x0 → F56 x1 → ∃ k, laws_FnExactSameCache.f k x0.f0 x0.f1 x1.f0 x1.f1 = some true
theorem laws_FnExactSameCache.walk (P : laws_FnExactSameCache.Pure) (x0 : S56) (cs0 : List Value) (x1 : S56) (cs1 : List Value) (w : World) (hk0 : k56.K w x0 cs0) (hf0 : F56 x0) (hk1 : k56.K w x1 cs1) (hf1 : F56 x1) :
    Calls Try.prog 9 #[.agg cs0.toArray, .agg cs1.toArray] w fun e w' => e = .returned (.bool true) ∧ Below w.heap.size w w' := by
  obtain ⟨A0_0, c0_0, A0_1, c0_1, rfl, l0_0, g0_0, l0_1, g0_1⟩ := k56_open hk0
  obtain ⟨A1_0, c1_0, A1_1, c1_1, rfl, l1_0, g1_0, l1_1, g1_1⟩ := k56_open hk1
  obtain ⟨k, h⟩ := P x0 x1 hf0 hf1
  refine (laws_FnExactSameCache.calls k A0_0 c0_0 x0.f0 A0_1 c0_1 x0.f1 A1_0 c1_0 x1.f0 A1_1 c1_1 x1.f1 true w g0_0 l0_0 g0_1 l0_1 g1_0 l1_0 g1_1 l1_1 h).mono ?_
  rintro e w' ⟨rfl, hd⟩
  exact ⟨rfl, hd⟩

end Go.Proofs.Ythbmemimpakljaa.QFnExactSameCache
