/- The law FnExactMustCheck: the statement, for every input, and its card. -/
import Derived.Test.YtbplaifhdgpfmaaGreatDoorCards
import Derived.Test.YtbplaifhdgpfmaaGreatDoorTie
import Derived.Test.YtbplaifhdgpfmaaGreatDoorM4
import Derived.WalkKit
import Derived.ProofKit
import Derived.OpenShut
import Derived.ShutString
import Derived.ChangeOld
import Derived.Below
import Derived.SizedLaws
import Derived.Carry
import Derived.Deep.DeepHandedRow
import Derived.Lib.LaidTab
import Derived.Stop.LaidErr
import Derived.Shelf.Vars
namespace Go.Proofs.YtbplaifhdgpfmaaGreatDoor.fnExactMustCheck
open Go.ChangeShapes Go.WideShapes Go.ChangeAt Go.RowKit Go.Ev Go.Proofs.YtbplaifhdgpfmaaGreatDoor.ApM
open Go.ChangeMaps (open_string shut_string)
set_option linter.unusedVariables false
theorem own : ownKnob Tryz.prog.godebug = none := by kernel_rfl
theorem laidOut : laidOutB Tryz.prog = true := by kernel_rfl
theorem opn24 : Opn Tryz.prog 24 ls24 := opn_of (n := 30) (by kernel_rfl)
theorem opn26 : Opn Tryz.prog 26 ls26 := opn_of (n := 30) (by kernel_rfl)
theorem pre3 : ∀ (y0 : dens ls24) (y1 : dens ls26) (y2 : dens ls3) (y3 : dens ls3) (y4 : dens ls3), wfs ls24 y0 → wfs ls26 y1 → wfs ls3 y2 → wfs ls3 y3 → wfs ls3 y4 → ct3.pre (pmk (t := .v true .ro ls24) y0 (pmk (t := .v true .ro ls26) y1 (pmk (t := .v false .ro ls3) y2 (pmk (t := .v false .ro ls3) y3 (pmk (t := .v false .ro ls3) y4 ()))))) :=
  by_like (A := ∀ (y0 : Req) (y1 : Rsp) (y2 : Int) (y3 : Int) (y4 : Int), wd y0 → wd y1 → wd y2 → wd y3 → wd y4 → p_FnExactMustCheck y0 y1 y2 y3 y4) (fun y0 y1 y2 y3 y4 h0 h1 h2 h3 h4 => ⟨h0, h1, h2, h3, h4⟩) (by kernel_rfl)
set_option maxRecDepth 100000 in
theorem starE : "*" ++ "errors.errorString" = "*errors.errorString" := by decide
theorem rowE (u : TypeId) (h : Tryz.prog.typeName? 3 u = some "*errors.errorString") : u = 140 :=
  typeName_ptr_named (nm := "errors.errorString") (by rw [starE]; kernel_rfl) (by kernel_rfl) (by decide) u (by rw [starE]; exact h)
theorem jMax {W : World} (hsh : W.ShapedOpen Tryz.prog) : NumAt 0 W :=
  Go.Proofs.cell_of_shapedOpen_int (P := Tryz.prog) (w := W) (zero := #[.int .i64 0]) (t := 3) (g := 0) (k := .i64) hsh (of_decide_eq_true (by kernel_rfl)) (by kernel_rfl) (by kernel_rfl) (by kernel_rfl) (by kernel_rfl) Tryz.underlying3
theorem jRow {W : World} (h : laidMetH Tryz.prog Rows.fnExactMustCheckRow.laid W) (hsh : W.ShapedOpen Tryz.prog) : J W := by
  have h1 : laidMet Tryz.prog Rows.fnExactMustCheckRow.laid W := h
  obtain ⟨a1, s1, hv1, _⟩ := laid_sentinel (P := Tryz.prog) (W := W) (n := "strconv.ErrSyntax") (r := (Rows.fnExactMustCheckRow.laid).drop 6) (text := [105, 110, 118, 97, 108, 105, 100, 32, 115, 121, 110, 116, 97, 120]) (by_like h1.tail.tail.tail.tail.tail (by kernel_rfl)) (show Tryz.prog.globalNamed "strconv.ErrSyntax" = some 1 by kernel_rfl) (show (Tryz.prog.globals[1]?).map (·.type) = some 74 by kernel_rfl) Tryz.underlying74 rowE Tryz.underlying140 Tryz.underlying142 rfl rfl Tryz.underlying9 (show Tryz.prog.cellsOf 142 = 1 by kernel_rfl) (show Tryz.prog.cellsOf 9 = 1 by kernel_rfl)
  have hc1 : W.cell? ⟨1, 0, none⟩ = some (.iface 140 (.pointer (some a1))) := by simpa using World.var?_cell (show Tryz.prog.globalNamed "strconv.ErrSyntax" = some 1 by kernel_rfl) hv1 0
  obtain ⟨a2, s2, hv2, _⟩ := laid_sentinel (P := Tryz.prog) (W := W) (n := "strconv.ErrRange") (r := (Rows.fnExactMustCheckRow.laid).drop 5) (text := [118, 97, 108, 117, 101, 32, 111, 117, 116, 32, 111, 102, 32, 114, 97, 110, 103, 101]) (by_like h1.tail.tail.tail.tail (by kernel_rfl)) (show Tryz.prog.globalNamed "strconv.ErrRange" = some 2 by kernel_rfl) (show (Tryz.prog.globals[2]?).map (·.type) = some 74 by kernel_rfl) Tryz.underlying74 rowE Tryz.underlying140 Tryz.underlying142 rfl rfl Tryz.underlying9 (show Tryz.prog.cellsOf 142 = 1 by kernel_rfl) (show Tryz.prog.cellsOf 9 = 1 by kernel_rfl)
  have hc2 : W.cell? ⟨2, 0, none⟩ = some (.iface 140 (.pointer (some a2))) := by simpa using World.var?_cell (show Tryz.prog.globalNamed "strconv.ErrRange" = some 2 by kernel_rfl) hv2 0
  exact ⟨Lib.tabIs_of_head (zs := Lib.pow10Tab) (k := .u64) (rest := (Rows.fnExactMustCheckRow.laid).drop 3) (show Tryz.prog.globalNamed "internal/strconv.uint64pow10" = some 5 by kernel_rfl) (show (Tryz.prog.globals[5]?).map (·.type) = some 149 by kernel_rfl) Tryz.underlying149 Tryz.underlying121 (show Tryz.prog.cellsOf 121 = 1 by kernel_rfl) (show Tryz.prog.cellsOf 149 = 20 by kernel_rfl) (by_like h1.tail.tail (by kernel_rfl)), ⟨_, hc1, .inr ⟨_, _, rfl⟩⟩, ⟨_, hc2, .inr ⟨_, _, rfl⟩⟩, jMax hsh, trivial⟩
set_option maxRecDepth 100000 in
theorem contract (H : Type) (enc : TypeId × Value → H) (W : World) (base : Nat) (args : Array Value) (ds gs : List (DataW H)) (before : List MemPlace)
    (hval0 : ∀ (j : Nat) t v, Tryz.f3.params[j]? = some t → args[j]? = some v → Value.okWide Tryz.prog W .any base t v)
    (hW : DataW.Whole enc Tryz.prog Tryz.f3.params.toList Rows.fnExactMustCheckSpec.vars false W args.toList ds gs before) (hL : laidMetH Tryz.prog Rows.fnExactMustCheckRow.laid W) (hsh : W.ShapedOpen Tryz.prog) :
    Calls Tryz.prog 3 args W fun e W' => ∃ v, e = .returned v ∧ Rows.fnExactMustCheckSpec.post enc Tryz.prog Tryz.f3 false true false false W args v W' := by
  have hJ : J W := jRow hL hsh
  have hval : ∀ (j : Nat) t v, Tryz.f3.params[j]? = some t → args[j]? = some v → Value.okWide Tryz.prog W .any base t v := hval0
  have hW' := hW
  obtain ⟨p, q, hA0, hV, rfl, hfz, hnd⟩ := hW
  have hA : DataW.TrodAll enc Tryz.prog W 0 (fun _ => true) true Tryz.f3.params.toList args.toList ds p := hA0
  rw [Tryz.params3] at hA hval
  obtain ⟨v0, vs0, d0, ds0, p0, q0, hargs, rfl, rfl, h0, r0⟩ := trodAll_cons hA
  obtain ⟨v1, vs1, d1, ds1, p1, q1, rfl, rfl, rfl, h1, r1⟩ := trodAll_cons r0
  obtain ⟨v2, vs2, d2, ds2, p2, q2, rfl, rfl, rfl, h2, r2⟩ := trodAll_cons r1
  obtain ⟨v3, vs3, d3, ds3, p3, q3, rfl, rfl, rfl, h3, r3⟩ := trodAll_cons r2
  obtain ⟨v4, vs4, d4, ds4, p4, q4, rfl, rfl, rfl, h4, r4⟩ := trodAll_cons r3
  obtain ⟨rfl, rfl, rfl⟩ := trodAll_nil r4
  obtain rfl : args = #[v0, v1, v2, v3, v4] := by cases args; simp_all
  obtain ⟨rfl, rfl⟩ := trodVars_none hV
  obtain ⟨ca0, rfl, _⟩ := okWide_struct Tryz.underlying24 (hval 0 24 v0 rfl rfl)
  have k0 := h0
  have lt0 : ∀ x ∈ p0, x.block < W.heap.size := by obtain ⟨m, hm⟩ := k0; exact DataW.trod_lt m _ _ _ hm
  obtain ⟨y0, hk0, hf0⟩ : ∃ y : dens ls24, repLs (roRow W (now W)) ls24 [] 0 0 y ca0.toList ∧ wfs ls24 y := by obtain ⟨m, hm⟩ := h0; exact opn24.op m _ _ hm
  have ar0 : argR (now W) W (.v true .ro ls24) y0 (.agg ca0) := arg_agg hk0
  obtain ⟨ca1, rfl, _⟩ := okWide_struct Tryz.underlying26 (hval 1 26 v1 rfl rfl)
  have k1 := h1
  have lt1 : ∀ x ∈ p1, x.block < W.heap.size := by obtain ⟨m, hm⟩ := k1; exact DataW.trod_lt m _ _ _ hm
  obtain ⟨y1, hk1, hf1⟩ : ∃ y : dens ls26, repLs (roRow W (now W)) ls26 [] 0 0 y ca1.toList ∧ wfs ls26 y := by obtain ⟨m, hm⟩ := h1; exact opn26.op m _ _ hm
  have ar1 : argR (now W) W (.v true .ro ls26) y1 (.agg ca1) := arg_agg hk1
  obtain ⟨y2, rfl, rfl, rfl, z2⟩ := open_int Tryz.underlying3 (hval 2 3 v2 rfl rfl) h2
  have ar2 : argR (now W) W (.v false .ro ls3) y2 (.int .i64 y2) := arg_one (by simp only [repLs, repL]; exact ⟨_, rfl, rfl⟩)
  have hf2 : wfs ls3 y2 := by simp only [wfs, wf]; exact z2
  obtain ⟨y3, rfl, rfl, rfl, z3⟩ := open_int Tryz.underlying3 (hval 3 3 v3 rfl rfl) h3
  have ar3 : argR (now W) W (.v false .ro ls3) y3 (.int .i64 y3) := arg_one (by simp only [repLs, repL]; exact ⟨_, rfl, rfl⟩)
  have hf3 : wfs ls3 y3 := by simp only [wfs, wf]; exact z3
  obtain ⟨y4, rfl, rfl, rfl, z4⟩ := open_int Tryz.underlying3 (hval 4 3 v4 rfl rfl) h4
  have ar4 : argR (now W) W (.v false .ro ls3) y4 (.int .i64 y4) := arg_one (by simp only [repLs, repL]; exact ⟨_, rfl, rfl⟩)
  have hf4 : wfs ls3 y4 := by simp only [wfs, wf]; exact z4
  have hcalls := bool_end (vals := #[.agg ca0, .agg ca1, .int .i64 y2, .int .i64 y3, .int .i64 y4]) (all3 W hJ) (args_cons ar0 (args_cons ar1 (args_cons ar2 (args_cons ar3 (args_cons ar4 args_nil))))) (pre3 y0 y1 y2 y3 y4 hf0 hf1 hf2 hf3 hf4)
  refine hcalls.mono fun e W' ⟨he, bel⟩ => ?_
  subst he
  exact ⟨_, rfl, _, _, _, [], _, [], hW', trodAll_mk1 (shut_bool Tryz.underlying4 _), (trodAll_cons_mk (Below.trod laidOut (by kernel_rfl) (of_decide_eq_true (by kernel_rfl)) k0 bel lt0) (trodAll_cons_mk (Below.trod laidOut (by kernel_rfl) (of_decide_eq_true (by kernel_rfl)) k1 bel lt1) (trodAll_cons_mk (shut_int Tryz.underlying3 z2) (trodAll_cons_mk (shut_int Tryz.underlying3 z3) (trodAll_cons_mk (shut_int Tryz.underlying3 z4) trodAll_mk0))))), rfl, bel.frame _, fun h => by cases h⟩
noncomputable def low : Nat := (World.holding Tryz.prog default ⟨#[], #[], []⟩).heap.size
noncomputable def utf8Cells : Array Value := (Go.Pinned.utf8FirstZ.map fun (n : Nat) => Value.int .u8 (n : Int)).toArray
/-- A world for the witness: the listed variables hold what they list. -/
noncomputable def laidWorld (os : Os) : World :=
  { World.holding Tryz.prog os ⟨#[.cells #[.string ⟨#[118, 97, 108, 117, 101, 32, 111, 117, 116, 32, 111, 102, 32, 114, 97, 110, 103, 101]⟩] 142, .cells #[.string ⟨#[105, 110, 118, 97, 108, 105, 100, 32, 115, 121, 110, 116, 97, 120]⟩] 142], #[], []⟩ with heap := ((((((((World.holding Tryz.prog os ⟨#[.cells #[.string ⟨#[118, 97, 108, 117, 101, 32, 111, 117, 116, 32, 111, 102, 32, 114, 97, 110, 103, 101]⟩] 142, .cells #[.string ⟨#[105, 110, 118, 97, 108, 105, 100, 32, 115, 121, 110, 116, 97, 120]⟩] 142], #[], []⟩).heap.modify 6 fun
      | .cells _ t frozen => .cells #[.int .u8 0, .int .u8 1, .int .u8 28, .int .u8 2, .int .u8 29, .int .u8 14, .int .u8 24, .int .u8 3, .int .u8 30, .int .u8 22, .int .u8 20, .int .u8 15, .int .u8 25, .int .u8 17, .int .u8 4, .int .u8 8, .int .u8 31, .int .u8 27, .int .u8 13, .int .u8 23, .int .u8 21, .int .u8 19, .int .u8 16, .int .u8 7, .int .u8 26, .int .u8 12, .int .u8 18, .int .u8 6, .int .u8 11, .int .u8 5, .int .u8 10, .int .u8 9] t frozen
      | o => o).modify 7 fun
      | .cells _ t frozen => .cells #[.int .u8 0, .int .u8 1, .int .u8 56, .int .u8 2, .int .u8 57, .int .u8 49, .int .u8 28, .int .u8 3, .int .u8 61, .int .u8 58, .int .u8 42, .int .u8 50, .int .u8 38, .int .u8 29, .int .u8 17, .int .u8 4, .int .u8 62, .int .u8 47, .int .u8 59, .int .u8 36, .int .u8 45, .int .u8 43, .int .u8 51, .int .u8 22, .int .u8 53, .int .u8 39, .int .u8 33, .int .u8 30, .int .u8 24, .int .u8 18, .int .u8 12, .int .u8 5, .int .u8 63, .int .u8 55, .int .u8 48, .int .u8 27, .int .u8 60, .int .u8 41, .int .u8 37, .int .u8 16, .int .u8 46, .int .u8 35, .int .u8 44, .int .u8 21, .int .u8 52, .int .u8 32, .int .u8 23, .int .u8 11, .int .u8 54, .int .u8 26, .int .u8 40, .int .u8 15, .int .u8 34, .int .u8 20, .int .u8 31, .int .u8 10, .int .u8 25, .int .u8 14, .int .u8 19, .int .u8 9, .int .u8 13, .int .u8 8, .int .u8 7, .int .u8 6] t frozen
      | o => o).modify 5 fun
      | .cells _ t frozen => .cells #[.int .u64 1, .int .u64 10, .int .u64 100, .int .u64 1000, .int .u64 10000, .int .u64 100000, .int .u64 1000000, .int .u64 10000000, .int .u64 100000000, .int .u64 1000000000, .int .u64 10000000000, .int .u64 100000000000, .int .u64 1000000000000, .int .u64 10000000000000, .int .u64 100000000000000, .int .u64 1000000000000000, .int .u64 10000000000000000, .int .u64 100000000000000000, .int .u64 1000000000000000000, .int .u64 10000000000000000000] t frozen
      | o => o).modify 4 fun
      | .cells _ t frozen => .cells #[.int .u8 128, .int .u8 191, .int .u8 160, .int .u8 191, .int .u8 128, .int .u8 159, .int .u8 144, .int .u8 191, .int .u8 128, .int .u8 143, .int .u8 0, .int .u8 0, .int .u8 0, .int .u8 0, .int .u8 0, .int .u8 0, .int .u8 0, .int .u8 0, .int .u8 0, .int .u8 0, .int .u8 0, .int .u8 0, .int .u8 0, .int .u8 0, .int .u8 0, .int .u8 0, .int .u8 0, .int .u8 0, .int .u8 0, .int .u8 0, .int .u8 0, .int .u8 0] t frozen
      | o => o).modify 2 fun
      | .cells _ t frozen => .cells #[.iface 140 (.pointer (some ⟨low + 0, 0, none⟩))] t frozen
      | o => o).modify 1 fun
      | .cells _ t frozen => .cells #[.iface 140 (.pointer (some ⟨low + 1, 0, none⟩))] t frozen
      | o => o).modify 3 fun
      | .cells _ t frozen => .cells utf8Cells t frozen
      | o => o) }
set_option maxRecDepth 100000 in
theorem laid_met (os : Os) : laidMetH Tryz.prog Rows.fnExactMustCheckRow.laid ((laidWorld os).forCall (fun _ _ => 0) ⟨#[], #[.agg #[.string ByteArray.empty, .string ByteArray.empty, .slice none 0 0, .string ByteArray.empty], .agg #[.int .i64 0, .slice none 0 0, .string ByteArray.empty], .int .i64 0, .int .i64 0, .int .i64 0], []⟩).memory :=
  by_like (laidMet_of_run' (P := Tryz.prog) (w := ((laidWorld os).forCall (fun _ _ => 0) ⟨#[], #[.agg #[.string ByteArray.empty, .string ByteArray.empty, .slice none 0 0, .string ByteArray.empty], .agg #[.int .i64 0, .slice none 0 0, .string ByteArray.empty], .int .i64 0, .int .i64 0, .int .i64 0], []⟩).memory) (l := Rows.fnExactMustCheckRow.laid) 8 (by kernel_rfl) (by kernel_rfl)) (by kernel_rfl)
theorem reads (os : Os) {H : Type} (enc : TypeId × Value → H) : ∃ x, DataW.whole enc Tryz.prog ((laidWorld os).forCall (fun _ _ => 0) ⟨#[], #[.agg #[.string ByteArray.empty, .string ByteArray.empty, .slice none 0 0, .string ByteArray.empty], .agg #[.int .i64 0, .slice none 0 0, .string ByteArray.empty], .int .i64 0, .int .i64 0, .int .i64 0], []⟩).memory Tryz.f3.params.toList Rows.fnExactMustCheckSpec.vars false (#[.agg #[.string ByteArray.empty, .string ByteArray.empty, .slice none 0 0, .string ByteArray.empty], .agg #[.int .i64 0, .slice none 0 0, .string ByteArray.empty], .int .i64 0, .int .i64 0, .int .i64 0] : Array Value).toList 8 = some x :=
  Option.isSome_iff_exists.1 (by kernel_rfl)
set_option maxRecDepth 100000 in
theorem lifted (os : Os) (started : os.Started) (H : Type) (enc : TypeId × Value → H) (F : Stop.Interp) :
    ReturnsInHanded {} Tryz.checked os 3 .any ((OpenSpec.ofChange Rows.fnExactMustCheckSpec).preRow enc Tryz.prog Tryz.f3 Rows.fnExactMustCheckRow.domain false Rows.fnExactMustCheckRow.laid) (((OpenSpec.ofChange Rows.fnExactMustCheckSpec).at F).post enc Tryz.prog Tryz.f3 false true false false) := by
  obtain ⟨x, hx⟩ := reads os enc
  refine returnsInHanded_of_row (C := Tryz.checked) (s := OpenSpec.ofChange Rows.fnExactMustCheckSpec) own started (by kernel_rfl) Tryz.func3
    (witness_row_at (enc := enc) (C := Tryz.checked) false (laidWorld os) #[.agg #[.string ByteArray.empty, .string ByteArray.empty, .slice none 0 0, .string ByteArray.empty], .agg #[.int .i64 0, .slice none 0 0, .string ByteArray.empty], .int .i64 0, .int .i64 0, .int .i64 0] rfl (by kernel_rfl) (by kernel_rfl) (by kernel_rfl)
      (OpenSpec.preRow_of_cond 8 hx (by kernel_rfl) (fun k hk => by cases hk) (by kernel_rfl) (laid_met os))) ?_
  intro W base args ds gs before hval hW _ _ _ hL hsh _
  exact contract H enc W base args ds gs before hval hW hL hsh
theorem said : Rows.FnExactMustCheckSaid :=
  OpenClaim.holds_of_cond 3 Tryz.f3 rfl rfl rfl rfl rfl rfl rfl ⟨rfl, rfl, rfl, rfl, rfl⟩ rfl rfl rfl rfl rfl (by kernel_rfl) Tryz.func3 (by kernel_rfl)
    (of_decide_eq_true (by kernel_rfl)) (by unfold Func.isWrapper; first | (rw [if_pos (by decide +kernel)]; kernel_rfl) | (rw [if_neg (by decide +kernel)]; exact ⟨rfl, rfl⟩))
    (fun os started H enc _ F => by rw [OpenClaim.pre_eq_preRow]; exact lifted os started H enc F)
set_option maxRecDepth 100000 in
theorem plain (f : FuncId) (fn : Func) (hf : Tryz.pinned.checked.prog.funcNamed "loop.example/g01402/laws.FnExactMustCheck" = some f) (hfn : Tryz.pinned.checked.prog.funcs[f]? = some fn) :
    true = Tryz.pinned.checked.prog.looks [] ∧ ∀ (j : Nat) t, fn.params[j]? = some t → Tryz.pinned.checked.prog.wantsStandIn t = false := by
  obtain rfl : f = 3 := Option.some.inj ((show Tryz.prog.funcNamed "loop.example/g01402/laws.FnExactMustCheck" = some 3 by kernel_rfl).symm.trans hf) |>.symm
  obtain rfl : fn = Tryz.f3 := (Option.some.inj (Tryz.func3.symm.trans hfn)).symm
  refine ⟨by kernel_rfl, fun j t ht => ?_⟩
  rw [Tryz.params3] at ht
  have ht := Array.mem_of_getElem? ht
  simp only [List.mem_toArray, List.mem_cons, List.not_mem_nil, or_false] at ht
  rcases ht with rfl | rfl | rfl | rfl | rfl
  · exact (show Tryz.prog.wantsStandIn 24 = false by kernel_rfl)
  · exact (show Tryz.prog.wantsStandIn 26 = false by kernel_rfl)
  · exact (show Tryz.prog.wantsStandIn 3 = false by kernel_rfl)
  · exact (show Tryz.prog.wantsStandIn 3 = false by kernel_rfl)
  · exact (show Tryz.prog.wantsStandIn 3 = false by kernel_rfl)
theorem card : Rows.FnExactMustCheckCardSaid :=
  Claim7.holds_tied_plain_at .later [] _ _ _ _ said (fun _ h => by cases h) (by kernel_rfl) (fun _ h => by cases h) fnExactMustCheck_row_tie rfl ⟨rfl, rfl⟩ (by kernel_rfl) rfl plain (by kernel_rfl)
#print axioms card
end Go.Proofs.YtbplaifhdgpfmaaGreatDoor.fnExactMustCheck
namespace Go.Proofs.YtbplaifhdgpfmaaGreatDoor
/-- The card, under a short name, for the claim. -/
theorem fnExactMustCheck_holds : Rows.FnExactMustCheckCardSaid := fnExactMustCheck.card
end Go.Proofs.YtbplaifhdgpfmaaGreatDoor
