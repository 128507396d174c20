/- A small verified machine for the operations of the given program, and plain laws of what its functions compute; without conditions of its own. Part 6. -/
import Derived.Test.YtiefookbpgdmoaaGreatDoorH4
import Derived.Test.YtiefookbpgdmoaaGreatDoorH3
import Derived.Test.YtiefookbpgdmoaaGreatDoorShelfb
import Derived.Shelf.Strings.SlTrimAscii
set_option linter.unusedVariables false
set_option linter.unusedSimpArgs false
section
set_option linter.unusedVariables false
namespace Go.Proofs.YtiefookbpgdmoaaGreatDoor.ApT
open Go Go.Ev Go.Proofs Go.RowKit
abbrev ls3 : List L := [.int .i64]
abbrev ls4 : List L := [.bool]
abbrev ls5 : List L := [.int .u8]
abbrev ls9 : List L := [.str]
abbrev ls22 : List L := [.list 100 [.str, .list 115 [.str, .str], .int .i64, .list 115 [.str, .str], .str, .int .i64, .int .i64, .bool]]
abbrev ls24 : List L := [.int .i64, .int .i64, .list 100 [.str, .list 115 [.str, .str], .int .i64, .list 115 [.str, .str], .str, .int .i64, .int .i64, .bool], .int .i64]
abbrev ls26 : List L := [.list 71 [.str, .list 122 [.str, .str], .int .i64, .list 122 [.str, .str], .str, .int .i64, .int .i64, .bool]]
abbrev ls28 : List L := [.int .i64, .int .i64, .list 71 [.str, .list 122 [.str, .str], .int .i64, .list 122 [.str, .str], .str, .int .i64, .int .i64, .bool], .int .i64]
abbrev ls34 : List L := [.list 24 [.int .i64, .int .i64, .list 100 [.str, .list 115 [.str, .str], .int .i64, .list 115 [.str, .str], .str, .int .i64, .int .i64, .bool], .int .i64]]
abbrev ls35 : List L := [.list 112 [.str, .int .i64]]
abbrev ls37 : List L := [.list 24 [.int .i64, .int .i64, .list 100 [.str, .list 115 [.str, .str], .int .i64, .list 115 [.str, .str], .str, .int .i64, .int .i64, .bool], .int .i64], .list 112 [.str, .int .i64]]
abbrev ls38 : List L := [.list 115 [.str, .str]]
abbrev ls40 : List L := [.str, .str, .list 115 [.str, .str], .str]
abbrev ls43 : List L := [.list 122 [.str, .str]]
abbrev ls45 : List L := [.int .i64, .list 122 [.str, .str], .str]
abbrev ls47 : List L := [.str, .list 122 [.str, .str], .int .i64, .list 122 [.str, .str], .str, .int .i64, .int .i64]
abbrev ls50 : List L := [.list 28 [.int .i64, .int .i64, .list 71 [.str, .list 122 [.str, .str], .int .i64, .list 122 [.str, .str], .str, .int .i64, .int .i64, .bool], .int .i64]]
abbrev ls51 : List L := [.list 117 [.str, .int .i64]]
abbrev ls53 : List L := [.list 28 [.int .i64, .int .i64, .list 71 [.str, .list 122 [.str, .str], .int .i64, .list 122 [.str, .str], .str, .int .i64, .int .i64, .bool], .int .i64], .list 117 [.str, .int .i64]]
abbrev ls56 : List L := [.str, .str, .list 122 [.str, .str], .str]
abbrev ls71 : List L := [.str, .list 122 [.str, .str], .int .i64, .list 122 [.str, .str], .str, .int .i64, .int .i64, .bool]
abbrev ls96 : List L := [.int .i64, .list 115 [.str, .str], .str]
abbrev ls98 : List L := [.str, .list 115 [.str, .str], .int .i64, .list 115 [.str, .str], .str, .int .i64, .int .i64]
abbrev ls100 : List L := [.str, .list 115 [.str, .str], .int .i64, .list 115 [.str, .str], .str, .int .i64, .int .i64, .bool]
abbrev ls112 : List L := [.str, .int .i64]
abbrev ls115 : List L := [.str, .str]
abbrev ls117 : List L := [.str, .int .i64]
abbrev ls122 : List L := [.str, .str]
abbrev ls138 : List L := [.list 9 [.str]]
abbrev ls149 : List L := [.list 3 [.int .i64]]
def tt : List (Nat × TI) := [
  (2, ⟨.sc, [.int .i64]⟩),
  (3, ⟨.sc, [.int .i64]⟩),
  (4, ⟨.sc, [.bool]⟩),
  (5, ⟨.sc, [.int .u8]⟩),
  (6, ⟨.sc, [.int .u8]⟩),
  (7, ⟨.st [(0, [.int .i64]), (1, [.int .i64]), (2, [.bool]), (3, [.int .u8])], [.int .i64, .int .i64, .bool, .int .u8]⟩),
  (8, ⟨.st [(0, [.int .i64]), (1, [.int .i64]), (2, [.bool]), (3, [.int .u8])], [.int .i64, .int .i64, .bool, .int .u8]⟩),
  (9, ⟨.sc, [.str]⟩),
  (10, ⟨.sc, [.str]⟩),
  (11, ⟨.sc, [.str]⟩),
  (12, ⟨.sc, [.int .u64]⟩),
  (13, ⟨.st [(0, [.str]), (1, [.int .u64])], [.str, .int .u64]⟩),
  (14, ⟨.st [(0, [.str]), (1, [.int .u64])], [.str, .int .u64]⟩),
  (21, ⟨.sc, [.int .i32]⟩),
  (22, ⟨.sl 100 [.str, .list 115 [.str, .str], .int .i64, .list 115 [.str, .str], .str, .int .i64, .int .i64, .bool] 112, [.list 100 [.str, .list 115 [.str, .str], .int .i64, .list 115 [.str, .str], .str, .int .i64, .int .i64, .bool]]⟩),
  (23, ⟨.st [(0, [.int .i64]), (1, [.int .i64]), (2, [.list 100 [.str, .list 115 [.str, .str], .int .i64, .list 115 [.str, .str], .str, .int .i64, .int .i64, .bool]]), (3, [.int .i64])], [.int .i64, .int .i64, .list 100 [.str, .list 115 [.str, .str], .int .i64, .list 115 [.str, .str], .str, .int .i64, .int .i64, .bool], .int .i64]⟩),
  (24, ⟨.st [(0, [.int .i64]), (1, [.int .i64]), (2, [.list 100 [.str, .list 115 [.str, .str], .int .i64, .list 115 [.str, .str], .str, .int .i64, .int .i64, .bool]]), (3, [.int .i64])], [.int .i64, .int .i64, .list 100 [.str, .list 115 [.str, .str], .int .i64, .list 115 [.str, .str], .str, .int .i64, .int .i64, .bool], .int .i64]⟩),
  (26, ⟨.sl 71 [.str, .list 122 [.str, .str], .int .i64, .list 122 [.str, .str], .str, .int .i64, .int .i64, .bool] 112, [.list 71 [.str, .list 122 [.str, .str], .int .i64, .list 122 [.str, .str], .str, .int .i64, .int .i64, .bool]]⟩),
  (27, ⟨.st [(0, [.int .i64]), (1, [.int .i64]), (2, [.list 71 [.str, .list 122 [.str, .str], .int .i64, .list 122 [.str, .str], .str, .int .i64, .int .i64, .bool]]), (3, [.int .i64])], [.int .i64, .int .i64, .list 71 [.str, .list 122 [.str, .str], .int .i64, .list 122 [.str, .str], .str, .int .i64, .int .i64, .bool], .int .i64]⟩),
  (28, ⟨.st [(0, [.int .i64]), (1, [.int .i64]), (2, [.list 71 [.str, .list 122 [.str, .str], .int .i64, .list 122 [.str, .str], .str, .int .i64, .int .i64, .bool]]), (3, [.int .i64])], [.int .i64, .int .i64, .list 71 [.str, .list 122 [.str, .str], .int .i64, .list 122 [.str, .str], .str, .int .i64, .int .i64, .bool], .int .i64]⟩),
  (34, ⟨.sl 24 [.int .i64, .int .i64, .list 100 [.str, .list 115 [.str, .str], .int .i64, .list 115 [.str, .str], .str, .int .i64, .int .i64, .bool], .int .i64] 48, [.list 24 [.int .i64, .int .i64, .list 100 [.str, .list 115 [.str, .str], .int .i64, .list 115 [.str, .str], .str, .int .i64, .int .i64, .bool], .int .i64]]⟩),
  (35, ⟨.sl 112 [.str, .int .i64] 24, [.list 112 [.str, .int .i64]]⟩),
  (36, ⟨.st [(0, [.list 24 [.int .i64, .int .i64, .list 100 [.str, .list 115 [.str, .str], .int .i64, .list 115 [.str, .str], .str, .int .i64, .int .i64, .bool], .int .i64]]), (1, [.list 112 [.str, .int .i64]])], [.list 24 [.int .i64, .int .i64, .list 100 [.str, .list 115 [.str, .str], .int .i64, .list 115 [.str, .str], .str, .int .i64, .int .i64, .bool], .int .i64], .list 112 [.str, .int .i64]]⟩),
  (37, ⟨.st [(0, [.list 24 [.int .i64, .int .i64, .list 100 [.str, .list 115 [.str, .str], .int .i64, .list 115 [.str, .str], .str, .int .i64, .int .i64, .bool], .int .i64]]), (1, [.list 112 [.str, .int .i64]])], [.list 24 [.int .i64, .int .i64, .list 100 [.str, .list 115 [.str, .str], .int .i64, .list 115 [.str, .str], .str, .int .i64, .int .i64, .bool], .int .i64], .list 112 [.str, .int .i64]]⟩),
  (38, ⟨.sl 115 [.str, .str] 32, [.list 115 [.str, .str]]⟩),
  (39, ⟨.st [(0, [.str]), (1, [.str]), (2, [.list 115 [.str, .str]]), (3, [.str])], [.str, .str, .list 115 [.str, .str], .str]⟩),
  (40, ⟨.st [(0, [.str]), (1, [.str]), (2, [.list 115 [.str, .str]]), (3, [.str])], [.str, .str, .list 115 [.str, .str], .str]⟩),
  (43, ⟨.sl 122 [.str, .str] 32, [.list 122 [.str, .str]]⟩),
  (44, ⟨.st [(0, [.int .i64]), (1, [.list 122 [.str, .str]]), (2, [.str])], [.int .i64, .list 122 [.str, .str], .str]⟩),
  (45, ⟨.st [(0, [.int .i64]), (1, [.list 122 [.str, .str]]), (2, [.str])], [.int .i64, .list 122 [.str, .str], .str]⟩),
  (46, ⟨.st [(0, [.str]), (1, [.list 122 [.str, .str]]), (2, [.int .i64, .list 122 [.str, .str], .str]), (5, [.int .i64]), (6, [.int .i64])], [.str, .list 122 [.str, .str], .int .i64, .list 122 [.str, .str], .str, .int .i64, .int .i64]⟩),
  (47, ⟨.st [(0, [.str]), (1, [.list 122 [.str, .str]]), (2, [.int .i64, .list 122 [.str, .str], .str]), (5, [.int .i64]), (6, [.int .i64])], [.str, .list 122 [.str, .str], .int .i64, .list 122 [.str, .str], .str, .int .i64, .int .i64]⟩),
  (50, ⟨.sl 28 [.int .i64, .int .i64, .list 71 [.str, .list 122 [.str, .str], .int .i64, .list 122 [.str, .str], .str, .int .i64, .int .i64, .bool], .int .i64] 48, [.list 28 [.int .i64, .int .i64, .list 71 [.str, .list 122 [.str, .str], .int .i64, .list 122 [.str, .str], .str, .int .i64, .int .i64, .bool], .int .i64]]⟩),
  (51, ⟨.sl 117 [.str, .int .i64] 24, [.list 117 [.str, .int .i64]]⟩),
  (52, ⟨.st [(0, [.list 28 [.int .i64, .int .i64, .list 71 [.str, .list 122 [.str, .str], .int .i64, .list 122 [.str, .str], .str, .int .i64, .int .i64, .bool], .int .i64]]), (1, [.list 117 [.str, .int .i64]])], [.list 28 [.int .i64, .int .i64, .list 71 [.str, .list 122 [.str, .str], .int .i64, .list 122 [.str, .str], .str, .int .i64, .int .i64, .bool], .int .i64], .list 117 [.str, .int .i64]]⟩),
  (53, ⟨.st [(0, [.list 28 [.int .i64, .int .i64, .list 71 [.str, .list 122 [.str, .str], .int .i64, .list 122 [.str, .str], .str, .int .i64, .int .i64, .bool], .int .i64]]), (1, [.list 117 [.str, .int .i64]])], [.list 28 [.int .i64, .int .i64, .list 71 [.str, .list 122 [.str, .str], .int .i64, .list 122 [.str, .str], .str, .int .i64, .int .i64, .bool], .int .i64], .list 117 [.str, .int .i64]]⟩),
  (55, ⟨.st [(0, [.str]), (1, [.str]), (2, [.list 122 [.str, .str]]), (3, [.str])], [.str, .str, .list 122 [.str, .str], .str]⟩),
  (56, ⟨.st [(0, [.str]), (1, [.str]), (2, [.list 122 [.str, .str]]), (3, [.str])], [.str, .str, .list 122 [.str, .str], .str]⟩),
  (70, ⟨.st [(0, [.str, .list 122 [.str, .str], .int .i64, .list 122 [.str, .str], .str, .int .i64, .int .i64]), (7, [.bool])], [.str, .list 122 [.str, .str], .int .i64, .list 122 [.str, .str], .str, .int .i64, .int .i64, .bool]⟩),
  (71, ⟨.st [(0, [.str, .list 122 [.str, .str], .int .i64, .list 122 [.str, .str], .str, .int .i64, .int .i64]), (7, [.bool])], [.str, .list 122 [.str, .str], .int .i64, .list 122 [.str, .str], .str, .int .i64, .int .i64, .bool]⟩),
  (95, ⟨.st [(0, [.int .i64]), (1, [.list 115 [.str, .str]]), (2, [.str])], [.int .i64, .list 115 [.str, .str], .str]⟩),
  (96, ⟨.st [(0, [.int .i64]), (1, [.list 115 [.str, .str]]), (2, [.str])], [.int .i64, .list 115 [.str, .str], .str]⟩),
  (97, ⟨.st [(0, [.str]), (1, [.list 115 [.str, .str]]), (2, [.int .i64, .list 115 [.str, .str], .str]), (5, [.int .i64]), (6, [.int .i64])], [.str, .list 115 [.str, .str], .int .i64, .list 115 [.str, .str], .str, .int .i64, .int .i64]⟩),
  (98, ⟨.st [(0, [.str]), (1, [.list 115 [.str, .str]]), (2, [.int .i64, .list 115 [.str, .str], .str]), (5, [.int .i64]), (6, [.int .i64])], [.str, .list 115 [.str, .str], .int .i64, .list 115 [.str, .str], .str, .int .i64, .int .i64]⟩),
  (99, ⟨.st [(0, [.str, .list 115 [.str, .str], .int .i64, .list 115 [.str, .str], .str, .int .i64, .int .i64]), (7, [.bool])], [.str, .list 115 [.str, .str], .int .i64, .list 115 [.str, .str], .str, .int .i64, .int .i64, .bool]⟩),
  (100, ⟨.st [(0, [.str, .list 115 [.str, .str], .int .i64, .list 115 [.str, .str], .str, .int .i64, .int .i64]), (7, [.bool])], [.str, .list 115 [.str, .str], .int .i64, .list 115 [.str, .str], .str, .int .i64, .int .i64, .bool]⟩),
  (111, ⟨.st [(0, [.str]), (1, [.int .i64])], [.str, .int .i64]⟩),
  (112, ⟨.st [(0, [.str]), (1, [.int .i64])], [.str, .int .i64]⟩),
  (114, ⟨.st [(0, [.str]), (1, [.str])], [.str, .str]⟩),
  (115, ⟨.st [(0, [.str]), (1, [.str])], [.str, .str]⟩),
  (117, ⟨.st [(0, [.str]), (1, [.int .i64])], [.str, .int .i64]⟩),
  (122, ⟨.st [(0, [.str]), (1, [.str])], [.str, .str]⟩),
  (132, ⟨.sl 5 [.int .u8] 1, [.list 5 [.int .u8]]⟩),
  (138, ⟨.sl 9 [.str] 16, [.list 9 [.str]]⟩),
  (149, ⟨.sl 3 [.int .i64] 8, [.list 3 [.int .i64]]⟩),
  (181, ⟨.sc, [.int .u64]⟩),
  (182, ⟨.st [(0, [.int .u8]), (1, [.int .u8])], [.int .u8, .int .u8]⟩),
  (183, ⟨.st [(0, [.int .u8]), (1, [.int .u8])], [.int .u8, .int .u8]⟩),
  (194, ⟨.sc, [.int .u32]⟩),
  (195, ⟨.sc, [.int .u8]⟩),
  (196, ⟨.sc, [.int .u8]⟩),
  (198, ⟨.sc, [.int .i32]⟩),
  (199, ⟨.sc, [.int .i32]⟩)]
theorem ttOk : ttB Tryz.prog tt = true := by kernel_rfl
theorem mixOk : Tryz.prog.follows .mixedOrders = true := by kernel_rfl
def J (_ : World) : Prop := True
theorem J_below {w w' : World} (h : J w) (_ : Below w.heap.size w w') : J w' := trivial
def Jn (n : Nat) (w : World) : Prop := ∃ w0 : World, w0.heap.size = n ∧ J w0 ∧ Below n w0 w
theorem Jn_J {n : Nat} {w : World} (h : Jn n w) : J w := by
  obtain ⟨w0, rfl, h1, h2⟩ := h
  exact J_below h1 h2
theorem Jn_below {n : Nat} {w w' : World} (h : Jn n w) (hb : Below n w w') : Jn n w' := by
  obtain ⟨w0, h0, h1, h2⟩ := h
  exact ⟨w0, h0, h1, h2.trans hb⟩
theorem Jn_of {w w' : World} (h : J w) (hb : Below w.heap.size w w') : Jn w.heap.size w' := ⟨w, rfl, h, hb⟩
noncomputable def E82 : Env := { tt, eqs := [], cts := [] }
theorem ok82 : EnvOk Tryz.prog E82 := ⟨ttOk, by kernel_rfl, rfl, mixOk⟩
theorem cs82 (w0 : World) (hJ : J w0) : EnvCts Tryz.prog E82 w0 w0.heap.size := by
  refine ⟨fun c hc => ?_, fun c hc => ?_⟩
  · cases hc
  · cases hc
noncomputable def ct82 : Ct := { f := 82, ps := [.v true .ro ls115, .v false .ro [.int .i64]], rs := [(false, [.int .i64])], shared := false, pre := fun (q : Fld × Int) => pSz q.1 q.2, F := fun (q : Fld × Int) => szF q.1 q.2 }
def st82 : List (SzStep Fld) := [.str (fun x : Fld => x.1), .str (fun x : Fld => x.2)]
theorem c82 (x : Fld) : szSum x st82 = cz x := by
  simp only [szSum, st82, cz_pair, cz_int, cz_bool, cz_str]
  all_goals omega
theorem w82 (x : Fld) (h : wd x) : szFine x st82 := by
  first | simp only [wd_pair] at h | skip
  simp only [szFine, st82, wd_pair, wf_wd]
  simp only [h, and_self]
theorem law82 : ∀ q : Fld × Int, pSz q.1 q.2 → szSt q.1 st82 q.2 (fun r => r = szF q.1 q.2) := fun q hq => szSt_holds q.1 st82 q.2 _ (w82 q.1 hq.1) hq.2.1 hq.2.2 (c82 q.1)
theorem all82 (w : World) (hJ : J w) : CtAt Tryz.prog ct82 w :=
  ct_by ok82 (cs82 w hJ) Tryz.func82 (by kernel_rfl) (H := (hint [])) law82 (by kernel_rfl)
noncomputable def E42 : Env := { tt, eqs := [], cts := [ct82] }
theorem ok42 : EnvOk Tryz.prog E42 := ⟨ttOk, by kernel_rfl, rfl, mixOk⟩
theorem cs42 (w0 : World) (hJ : J w0) : EnvCts Tryz.prog E42 w0 w0.heap.size := by
  refine ⟨fun c hc => ?_, fun c hc => ?_⟩
  · rcases List.mem_cons.1 hc with rfl | hc
    · exact fun w hb => all82 w (J_below hJ hb)
    cases hc
  · cases hc
noncomputable def ct42 : Ct := { f := 42, ps := [.v false .ro ls38, .v false .ro [.int .i64]], rs := [(false, [.int .i64])], shared := false, pre := fun (q : (List Fld) × Int) => pSz q.1 q.2, F := fun (q : (List Fld) × Int) => szF q.1 q.2 }
theorem law42 : ∀ q : (List Fld) × Int, pSz q.1 q.2 → szS (α := Fld) Dft.dft (fun y k => pSz y k) (fun y k => szF y k) q.1 q.2 (fun r => r = szF q.1 q.2) := fun q hq => szS_holds (α := Fld) Dft.dft cz wd q.1 q.2 hq.1.1 hq.1.2 hq.2.1 hq.2.2
theorem all42 (w : World) (hJ : J w) : CtAt Tryz.prog ct42 w :=
  ct_by ok42 (cs42 w hJ) Tryz.func42 (by kernel_rfl) (H := (hint [(5, [.val 1 (.int .i64), .val 5 (.int .i64)])])) law42 (by kernel_rfl)
noncomputable def E107 : Env := { tt, eqs := [], cts := [ct42] }
theorem ok107 : EnvOk Tryz.prog E107 := ⟨ttOk, by kernel_rfl, rfl, mixOk⟩
theorem cs107 (w0 : World) (hJ : J w0) : EnvCts Tryz.prog E107 w0 w0.heap.size := by
  refine ⟨fun c hc => ?_, fun c hc => ?_⟩
  · rcases List.mem_cons.1 hc with rfl | hc
    · exact fun w hb => all42 w (J_below hJ hb)
    cases hc
  · cases hc
noncomputable def ct107 : Ct := { f := 107, ps := [.v true .ro ls96, .v false .ro [.int .i64]], rs := [(false, [.int .i64])], shared := false, pre := fun (q : Rsp × Int) => pSz q.1 q.2, F := fun (q : Rsp × Int) => szF q.1 q.2 }
def st107 : List (SzStep Rsp) := [.call (fun x : Rsp => wd (x.2.1 : (List Fld))) (fun x : Rsp => cz (x.2.1 : (List Fld))), .str (fun x : Rsp => x.2.2)]
theorem c107 (x : Rsp) : szSum x st107 = cz x := by
  simp only [szSum, st107, cz_pair, cz_int, cz_bool, cz_str]
  all_goals omega
theorem w107 (x : Rsp) (h : wd x) : szFine x st107 := by
  first | simp only [wd_pair] at h | skip
  simp only [szFine, st107, wd_pair, wf_wd]
  simp only [h, and_self]
theorem law107 : ∀ q : Rsp × Int, pSz q.1 q.2 → szSt q.1 st107 q.2 (fun r => r = szF q.1 q.2) := fun q hq => szSt_holds q.1 st107 q.2 _ (w107 q.1 hq.1) hq.2.1 hq.2.2 (c107 q.1)
theorem all107 (w : World) (hJ : J w) : CtAt Tryz.prog ct107 w :=
  ct_by ok107 (cs107 w hJ) Tryz.func107 (by kernel_rfl) (H := (hint [])) law107 (by kernel_rfl)
noncomputable def E98 : Env := { tt, eqs := [], cts := [ct42, ct107] }
theorem ok98 : EnvOk Tryz.prog E98 := ⟨ttOk, by kernel_rfl, rfl, mixOk⟩
theorem cs98 (w0 : World) (hJ : J w0) : EnvCts Tryz.prog E98 w0 w0.heap.size := by
  refine ⟨fun c hc => ?_, fun c hc => ?_⟩
  · rcases List.mem_cons.1 hc with rfl | hc
    · exact fun w hb => all42 w (J_below hJ hb)
    rcases List.mem_cons.1 hc with rfl | hc
    · exact fun w hb => all107 w (J_below hJ hb)
    cases hc
  · cases hc
noncomputable def ct98 : Ct := { f := 98, ps := [.v true .ro ls98, .v false .ro [.int .i64]], rs := [(false, [.int .i64])], shared := false, pre := fun (q : Sto × Int) => pSz q.1 q.2, F := fun (q : Sto × Int) => szF q.1 q.2 }
def st98 : List (SzStep Sto) := [.str (fun x : Sto => x.1), .call (fun x : Sto => wd (x.2.1 : (List Fld))) (fun x : Sto => cz (x.2.1 : (List Fld))), .call (fun x : Sto => wd ((x.2.2.1, x.2.2.2.1, x.2.2.2.2.1) : Rsp)) (fun x : Sto => cz ((x.2.2.1, x.2.2.2.1, x.2.2.2.2.1) : Rsp))]
theorem c98 (x : Sto) : szSum x st98 = cz x := by
  simp only [szSum, st98, cz_pair, cz_int, cz_bool, cz_str]
  all_goals omega
theorem w98 (x : Sto) (h : wd x) : szFine x st98 := by
  first | simp only [wd_pair] at h | skip
  simp only [szFine, st98, wd_pair, wf_wd]
  simp only [h, and_self]
theorem law98 : ∀ q : Sto × Int, pSz q.1 q.2 → szSt q.1 st98 q.2 (fun r => r = szF q.1 q.2) := fun q hq => szSt_holds q.1 st98 q.2 _ (w98 q.1 hq.1) hq.2.1 hq.2.2 (c98 q.1)
theorem all98 (w : World) (hJ : J w) : CtAt Tryz.prog ct98 w :=
  ct_by ok98 (cs98 w hJ) Tryz.func98 (by kernel_rfl) (H := (hint [])) law98 (by kernel_rfl)
noncomputable def E68 : Env := { tt, eqs := [], cts := [ct98] }
theorem ok68 : EnvOk Tryz.prog E68 := ⟨ttOk, by kernel_rfl, rfl, mixOk⟩
theorem cs68 (w0 : World) (hJ : J w0) : EnvCts Tryz.prog E68 w0 w0.heap.size := by
  refine ⟨fun c hc => ?_, fun c hc => ?_⟩
  · rcases List.mem_cons.1 hc with rfl | hc
    · exact fun w hb => all98 w (J_below hJ hb)
    cases hc
  · cases hc
noncomputable def ct68 : Ct := { f := 68, ps := [.v true .ro ls100, .v false .ro [.int .i64]], rs := [(false, [.int .i64])], shared := false, pre := fun (q : Slt × Int) => pSz q.1 q.2, F := fun (q : Slt × Int) => szF q.1 q.2 }
def st68 : List (SzStep Slt) := [.call (fun x : Slt => wd ((x.1, x.2.1, x.2.2.1, x.2.2.2.1, x.2.2.2.2.1, x.2.2.2.2.2.1, x.2.2.2.2.2.2.1) : Sto)) (fun x : Slt => cz ((x.1, x.2.1, x.2.2.1, x.2.2.2.1, x.2.2.2.2.1, x.2.2.2.2.2.1, x.2.2.2.2.2.2.1) : Sto))]
theorem c68 (x : Slt) : szSum x st68 = cz x := by
  simp only [szSum, st68, cz_pair, cz_int, cz_bool, cz_str]
  all_goals omega
theorem w68 (x : Slt) (h : wd x) : szFine x st68 := by
  first | simp only [wd_pair] at h | skip
  simp only [szFine, st68, wd_pair, wf_wd]
  simp only [h, and_self]
theorem law68 : ∀ q : Slt × Int, pSz q.1 q.2 → szSt q.1 st68 q.2 (fun r => r = szF q.1 q.2) := fun q hq => szSt_holds q.1 st68 q.2 _ (w68 q.1 hq.1) hq.2.1 hq.2.2 (c68 q.1)
theorem all68 (w : World) (hJ : J w) : CtAt Tryz.prog ct68 w :=
  ct_by ok68 (cs68 w hJ) Tryz.func68 (by kernel_rfl) (H := (hint [])) law68 (by kernel_rfl)
noncomputable def E29 : Env := { tt, eqs := [], cts := [ct68] }
theorem ok29 : EnvOk Tryz.prog E29 := ⟨ttOk, by kernel_rfl, rfl, mixOk⟩
theorem cs29 (w0 : World) (hJ : J w0) : EnvCts Tryz.prog E29 w0 w0.heap.size := by
  refine ⟨fun c hc => ?_, fun c hc => ?_⟩
  · rcases List.mem_cons.1 hc with rfl | hc
    · exact fun w hb => all68 w (J_below hJ hb)
    cases hc
  · cases hc
noncomputable def ct29 : Ct := { f := 29, ps := [.v false .ro ls22, .v false .ro [.int .i64]], rs := [(false, [.int .i64])], shared := false, pre := fun (q : (List Slt) × Int) => pSz q.1 q.2, F := fun (q : (List Slt) × Int) => szF q.1 q.2 }
theorem law29 : ∀ q : (List Slt) × Int, pSz q.1 q.2 → szS (α := Slt) Dft.dft (fun y k => pSz y k) (fun y k => szF y k) q.1 q.2 (fun r => r = szF q.1 q.2) := fun q hq => szS_holds (α := Slt) Dft.dft cz wd q.1 q.2 hq.1.1 hq.1.2 hq.2.1 hq.2.2
theorem all29 (w : World) (hJ : J w) : CtAt Tryz.prog ct29 w :=
  ct_by ok29 (cs29 w hJ) Tryz.func29 (by kernel_rfl) (H := (hint [(5, [.val 1 (.int .i64), .val 5 (.int .i64)])])) law29 (by kernel_rfl)
noncomputable def E6 : Env := { tt, eqs := [], cts := [ct29] }
theorem ok6 : EnvOk Tryz.prog E6 := ⟨ttOk, by kernel_rfl, rfl, mixOk⟩
theorem cs6 (w0 : World) (hJ : J w0) : EnvCts Tryz.prog E6 w0 w0.heap.size := by
  refine ⟨fun c hc => ?_, fun c hc => ?_⟩
  · rcases List.mem_cons.1 hc with rfl | hc
    · exact fun w hb => all29 w (J_below hJ hb)
    cases hc
  · cases hc
noncomputable def ct6 : Ct := { f := 6, ps := [.v true .ro ls24, .v false .ro [.int .i64]], rs := [(false, [.int .i64])], shared := false, pre := fun (q : Shd × Int) => pSz q.1 q.2, F := fun (q : Shd × Int) => szF q.1 q.2 }
def st6 : List (SzStep Shd) := [.call (fun x : Shd => wd (x.2.2.1 : (List Slt))) (fun x : Shd => cz (x.2.2.1 : (List Slt)))]
theorem c6 (x : Shd) : szSum x st6 = cz x := by
  simp only [szSum, st6, cz_pair, cz_int, cz_bool, cz_str]
  all_goals omega
theorem w6 (x : Shd) (h : wd x) : szFine x st6 := by
  first | simp only [wd_pair] at h | skip
  simp only [szFine, st6, wd_pair, wf_wd]
  simp only [h, and_self]
theorem law6 : ∀ q : Shd × Int, pSz q.1 q.2 → szSt q.1 st6 q.2 (fun r => r = szF q.1 q.2) := fun q hq => szSt_holds q.1 st6 q.2 _ (w6 q.1 hq.1) hq.2.1 hq.2.2 (c6 q.1)
theorem all6 (w : World) (hJ : J w) : CtAt Tryz.prog ct6 w :=
  ct_by ok6 (cs6 w hJ) Tryz.func6 (by kernel_rfl) (H := (hint [])) law6 (by kernel_rfl)
noncomputable def E40 : Env := { tt, eqs := [], cts := [ct6] }
theorem ok40 : EnvOk Tryz.prog E40 := ⟨ttOk, by kernel_rfl, rfl, mixOk⟩
theorem cs40 (w0 : World) (hJ : J w0) : EnvCts Tryz.prog E40 w0 w0.heap.size := by
  refine ⟨fun c hc => ?_, fun c hc => ?_⟩
  · rcases List.mem_cons.1 hc with rfl | hc
    · exact fun w hb => all6 w (J_below hJ hb)
    cases hc
  · cases hc
noncomputable def ct40 : Ct := { f := 40, ps := [.v false .ro ls34, .v false .ro [.int .i64]], rs := [(false, [.int .i64])], shared := false, pre := fun (q : (List Shd) × Int) => pSz q.1 q.2, F := fun (q : (List Shd) × Int) => szF q.1 q.2 }
theorem law40 : ∀ q : (List Shd) × Int, pSz q.1 q.2 → szS (α := Shd) Dft.dft (fun y k => pSz y k) (fun y k => szF y k) q.1 q.2 (fun r => r = szF q.1 q.2) := fun q hq => szS_holds (α := Shd) Dft.dft cz wd q.1 q.2 hq.1.1 hq.1.2 hq.2.1 hq.2.2
theorem all40 (w : World) (hJ : J w) : CtAt Tryz.prog ct40 w :=
  ct_by ok40 (cs40 w hJ) Tryz.func40 (by kernel_rfl) (H := (hint [(5, [.val 1 (.int .i64), .val 5 (.int .i64)])])) law40 (by kernel_rfl)
noncomputable def E81 : Env := { tt, eqs := [], cts := [] }
theorem ok81 : EnvOk Tryz.prog E81 := ⟨ttOk, by kernel_rfl, rfl, mixOk⟩
theorem cs81 (w0 : World) (hJ : J w0) : EnvCts Tryz.prog E81 w0 w0.heap.size := by
  refine ⟨fun c hc => ?_, fun c hc => ?_⟩
  · cases hc
  · cases hc
noncomputable def ct81 : Ct := { f := 81, ps := [.v true .ro ls112, .v false .ro [.int .i64]], rs := [(false, [.int .i64])], shared := false, pre := fun (q : Gen × Int) => pSz q.1 q.2, F := fun (q : Gen × Int) => szF q.1 q.2 }
def st81 : List (SzStep Gen) := [.str (fun x : Gen => x.1)]
theorem c81 (x : Gen) : szSum x st81 = cz x := by
  simp only [szSum, st81, cz_pair, cz_int, cz_bool, cz_str]
  all_goals omega
theorem w81 (x : Gen) (h : wd x) : szFine x st81 := by
  first | simp only [wd_pair] at h | skip
  simp only [szFine, st81, wd_pair, wf_wd]
  simp only [h, and_self]
theorem law81 : ∀ q : Gen × Int, pSz q.1 q.2 → szSt q.1 st81 q.2 (fun r => r = szF q.1 q.2) := fun q hq => szSt_holds q.1 st81 q.2 _ (w81 q.1 hq.1) hq.2.1 hq.2.2 (c81 q.1)
theorem all81 (w : World) (hJ : J w) : CtAt Tryz.prog ct81 w :=
  ct_by ok81 (cs81 w hJ) Tryz.func81 (by kernel_rfl) (H := (hint [])) law81 (by kernel_rfl)
noncomputable def E41 : Env := { tt, eqs := [], cts := [ct81] }
theorem ok41 : EnvOk Tryz.prog E41 := ⟨ttOk, by kernel_rfl, rfl, mixOk⟩
theorem cs41 (w0 : World) (hJ : J w0) : EnvCts Tryz.prog E41 w0 w0.heap.size := by
  refine ⟨fun c hc => ?_, fun c hc => ?_⟩
  · rcases List.mem_cons.1 hc with rfl | hc
    · exact fun w hb => all81 w (J_below hJ hb)
    cases hc
  · cases hc
noncomputable def ct41 : Ct := { f := 41, ps := [.v false .ro ls35, .v false .ro [.int .i64]], rs := [(false, [.int .i64])], shared := false, pre := fun (q : (List Gen) × Int) => pSz q.1 q.2, F := fun (q : (List Gen) × Int) => szF q.1 q.2 }
theorem law41 : ∀ q : (List Gen) × Int, pSz q.1 q.2 → szS (α := Gen) Dft.dft (fun y k => pSz y k) (fun y k => szF y k) q.1 q.2 (fun r => r = szF q.1 q.2) := fun q hq => szS_holds (α := Gen) Dft.dft cz wd q.1 q.2 hq.1.1 hq.1.2 hq.2.1 hq.2.2
theorem all41 (w : World) (hJ : J w) : CtAt Tryz.prog ct41 w :=
  ct_by ok41 (cs41 w hJ) Tryz.func41 (by kernel_rfl) (H := (hint [(5, [.val 1 (.int .i64), .val 5 (.int .i64)])])) law41 (by kernel_rfl)
noncomputable def E13 : Env := { tt, eqs := [], cts := [ct40, ct41] }
theorem ok13 : EnvOk Tryz.prog E13 := ⟨ttOk, by kernel_rfl, rfl, mixOk⟩
theorem cs13 (w0 : World) (hJ : J w0) : EnvCts Tryz.prog E13 w0 w0.heap.size := by
  refine ⟨fun c hc => ?_, fun c hc => ?_⟩
  · rcases List.mem_cons.1 hc with rfl | hc
    · exact fun w hb => all40 w (J_below hJ hb)
    rcases List.mem_cons.1 hc with rfl | hc
    · exact fun w hb => all41 w (J_below hJ hb)
    cases hc
  · cases hc
noncomputable def ct13 : Ct := { f := 13, ps := [.v true .ro ls37, .v false .ro [.int .i64]], rs := [(false, [.int .i64])], shared := false, pre := fun (q : Cch × Int) => pSz q.1 q.2, F := fun (q : Cch × Int) => szF q.1 q.2 }
def st13 : List (SzStep Cch) := [.call (fun x : Cch => wd (x.1 : (List Shd))) (fun x : Cch => cz (x.1 : (List Shd))), .call (fun x : Cch => wd (x.2 : (List Gen))) (fun x : Cch => cz (x.2 : (List Gen)))]
theorem c13 (x : Cch) : szSum x st13 = cz x := by
  simp only [szSum, st13, cz_pair, cz_int, cz_bool, cz_str]
  all_goals omega
theorem w13 (x : Cch) (h : wd x) : szFine x st13 := by
  first | simp only [wd_pair] at h | skip
  simp only [szFine, st13, wd_pair, wf_wd]
  simp only [h, and_self]
theorem law13 : ∀ q : Cch × Int, pSz q.1 q.2 → szSt q.1 st13 q.2 (fun r => r = szF q.1 q.2) := fun q hq => szSt_holds q.1 st13 q.2 _ (w13 q.1 hq.1) hq.2.1 hq.2.2 (c13 q.1)
theorem all13 (w : World) (hJ : J w) : CtAt Tryz.prog ct13 w :=
  ct_by ok13 (cs13 w hJ) Tryz.func13 (by kernel_rfl) (H := (hint [])) law13 (by kernel_rfl)
noncomputable def E14 : Env := { tt, eqs := [], cts := [ct42] }
theorem ok14 : EnvOk Tryz.prog E14 := ⟨ttOk, by kernel_rfl, rfl, mixOk⟩
theorem cs14 (w0 : World) (hJ : J w0) : EnvCts Tryz.prog E14 w0 w0.heap.size := by
  refine ⟨fun c hc => ?_, fun c hc => ?_⟩
  · rcases List.mem_cons.1 hc with rfl | hc
    · exact fun w hb => all42 w (J_below hJ hb)
    cases hc
  · cases hc
noncomputable def ct14 : Ct := { f := 14, ps := [.v true .ro ls40, .v false .ro [.int .i64]], rs := [(false, [.int .i64])], shared := false, pre := fun (q : Req × Int) => pSz q.1 q.2, F := fun (q : Req × Int) => szF q.1 q.2 }
def st14 : List (SzStep Req) := [.str (fun x : Req => x.1), .str (fun x : Req => x.2.1), .call (fun x : Req => wd (x.2.2.1 : (List Fld))) (fun x : Req => cz (x.2.2.1 : (List Fld))), .str (fun x : Req => x.2.2.2)]
theorem c14 (x : Req) : szSum x st14 = cz x := by
  simp only [szSum, st14, cz_pair, cz_int, cz_bool, cz_str]
  all_goals omega
theorem w14 (x : Req) (h : wd x) : szFine x st14 := by
  first | simp only [wd_pair] at h | skip
  simp only [szFine, st14, wd_pair, wf_wd]
  simp only [h, and_self]
theorem law14 : ∀ q : Req × Int, pSz q.1 q.2 → szSt q.1 st14 q.2 (fun r => r = szF q.1 q.2) := fun q hq => szSt_holds q.1 st14 q.2 _ (w14 q.1 hq.1) hq.2.1 hq.2.2 (c14 q.1)
theorem all14 (w : World) (hJ : J w) : CtAt Tryz.prog ct14 w :=
  ct_by ok14 (cs14 w hJ) Tryz.func14 (by kernel_rfl) (H := (hint [])) law14 (by kernel_rfl)
noncomputable def E88 : Env := { tt, eqs := [], cts := [] }
theorem ok88 : EnvOk Tryz.prog E88 := ⟨ttOk, by kernel_rfl, rfl, mixOk⟩
theorem cs88 (w0 : World) (hJ : J w0) : EnvCts Tryz.prog E88 w0 w0.heap.size := by
  refine ⟨fun c hc => ?_, fun c hc => ?_⟩
  · cases hc
  · cases hc
noncomputable def ct88 : Ct := { f := 88, ps := [.v true .ro ls115], rs := [(true, ls122)], shared := false, pre := fun (x : Fld) => pTo x, F := fun (x : Fld) => toF x }
theorem law88 : ∀ q : Fld, pTo q → conj [] (q = toF q) := fun q hq => rfl
theorem all88 (w : World) (hJ : J w) : CtAt Tryz.prog ct88 w :=
  ct_by ok88 (cs88 w hJ) Tryz.func88 (by kernel_rfl) (H := (hint [])) law88 (by kernel_rfl)
noncomputable def E49 : Env := { tt, eqs := [], cts := [ct88] }
theorem ok49 : EnvOk Tryz.prog E49 := ⟨ttOk, by kernel_rfl, rfl, mixOk⟩
theorem cs49 (w0 : World) (hJ : J w0) : EnvCts Tryz.prog E49 w0 w0.heap.size := by
  refine ⟨fun c hc => ?_, fun c hc => ?_⟩
  · rcases List.mem_cons.1 hc with rfl | hc
    · exact fun w hb => all88 w (J_below hJ hb)
    cases hc
  · cases hc
noncomputable def ct49 : Ct := { f := 49, ps := [.v false .ro ls38], rs := [(false, ls43)], shared := false, pre := fun (x : (List Fld)) => pTo x, F := fun (x : (List Fld)) => toF x }
theorem law49 : ∀ q : (List Fld), pTo q → toS (α := Fld) Dft.dft 32 (fun y => pTo y) q (fun r => r = toF q) := fun q hq => toS_holds (α := Fld) Dft.dft 32 (fun y => pTo y) q (md_len' hq) (by omega) (fun i a h => md_mem hq (List.mem_of_getElem? h)) rfl
theorem all49 (w : World) (hJ : J w) : CtAt Tryz.prog ct49 w :=
  ct_by ok49 (cs49 w hJ) Tryz.func49 (by kernel_rfl) (H := (hint [(3, [.reg 3 122 ls122 true, .val 4 (.int .i64)])])) law49 (by kernel_rfl)
noncomputable def E109 : Env := { tt, eqs := [], cts := [ct49] }
theorem ok109 : EnvOk Tryz.prog E109 := ⟨ttOk, by kernel_rfl, rfl, mixOk⟩
theorem cs109 (w0 : World) (hJ : J w0) : EnvCts Tryz.prog E109 w0 w0.heap.size := by
  refine ⟨fun c hc => ?_, fun c hc => ?_⟩
  · rcases List.mem_cons.1 hc with rfl | hc
    · exact fun w hb => all49 w (J_below hJ hb)
    cases hc
  · cases hc
noncomputable def ct109 : Ct := { f := 109, ps := [.v true .ro ls96], rs := [(true, ls45)], shared := false, pre := fun (x : Rsp) => pTo x, F := fun (x : Rsp) => toF x }
theorem law109 : ∀ q : Rsp, pTo q → conj [pTo (q.2.1 : (List Fld))] (q = toF q) := fun q hq => ⟨(czh (czt hq)), rfl⟩
theorem all109 (w : World) (hJ : J w) : CtAt Tryz.prog ct109 w :=
  ct_by ok109 (cs109 w hJ) Tryz.func109 (by kernel_rfl) (H := (hint [])) law109 (by kernel_rfl)
noncomputable def E101 : Env := { tt, eqs := [], cts := [ct49, ct109] }
theorem ok101 : EnvOk Tryz.prog E101 := ⟨ttOk, by kernel_rfl, rfl, mixOk⟩
theorem cs101 (w0 : World) (hJ : J w0) : EnvCts Tryz.prog E101 w0 w0.heap.size := by
  refine ⟨fun c hc => ?_, fun c hc => ?_⟩
  · rcases List.mem_cons.1 hc with rfl | hc
    · exact fun w hb => all49 w (J_below hJ hb)
    rcases List.mem_cons.1 hc with rfl | hc
    · exact fun w hb => all109 w (J_below hJ hb)
    cases hc
  · cases hc
noncomputable def ct101 : Ct := { f := 101, ps := [.v true .ro ls98], rs := [(true, ls47)], shared := false, pre := fun (x : Sto) => pTo x, F := fun (x : Sto) => toF x }
theorem law101 : ∀ q : Sto, pTo q → conj [pTo (q.2.1 : (List Fld)), pTo ((q.2.2.1, q.2.2.2.1, q.2.2.2.2.1) : Rsp)] (q = toF q) := fun q hq => ⟨(czh (czt hq)), (czm3 (czt (czt hq))), rfl⟩
theorem all101 (w : World) (hJ : J w) : CtAt Tryz.prog ct101 w :=
  ct_by ok101 (cs101 w hJ) Tryz.func101 (by kernel_rfl) (H := (hint [])) law101 (by kernel_rfl)
noncomputable def E72 : Env := { tt, eqs := [], cts := [ct101] }
theorem ok72 : EnvOk Tryz.prog E72 := ⟨ttOk, by kernel_rfl, rfl, mixOk⟩
theorem cs72 (w0 : World) (hJ : J w0) : EnvCts Tryz.prog E72 w0 w0.heap.size := by
  refine ⟨fun c hc => ?_, fun c hc => ?_⟩
  · rcases List.mem_cons.1 hc with rfl | hc
    · exact fun w hb => all101 w (J_below hJ hb)
    cases hc
  · cases hc
noncomputable def ct72 : Ct := { f := 72, ps := [.v true .ro ls100], rs := [(true, ls71)], shared := false, pre := fun (x : Slt) => pTo x, F := fun (x : Slt) => toF x }
theorem law72 : ∀ q : Slt, pTo q → conj [pTo ((q.1, q.2.1, q.2.2.1, q.2.2.2.1, q.2.2.2.2.1, q.2.2.2.2.2.1, q.2.2.2.2.2.2.1) : Sto)] (q = toF q) := fun q hq => ⟨(czm7 hq), rfl⟩
theorem all72 (w : World) (hJ : J w) : CtAt Tryz.prog ct72 w :=
  ct_by ok72 (cs72 w hJ) Tryz.func72 (by kernel_rfl) (H := (hint [])) law72 (by kernel_rfl)
noncomputable def E33 : Env := { tt, eqs := [], cts := [ct72], deep := true }
theorem ok33 : EnvOk Tryz.prog E33 := ⟨ttOk, by kernel_rfl, rfl, mixOk⟩
theorem cs33 (w0 : World) (hJ : J w0) : EnvCts Tryz.prog E33 w0 w0.heap.size := by
  refine ⟨fun c hc => ?_, fun c hc => ?_⟩
  · rcases List.mem_cons.1 hc with rfl | hc
    · exact fun w hb => all72 w (J_below hJ hb)
    cases hc
  · cases hc
noncomputable def ct33 : Ct := { f := 33, ps := [.v false .ro ls22], rs := [(false, ls26)], shared := false, pre := fun (x : (List Slt)) => pTo x, F := fun (x : (List Slt)) => toF x, deep := true }
theorem law33 : ∀ q : (List Slt), pTo q → toS (α := Slt) Dft.dft 112 (fun y => pTo y) q (fun r => r = toF q) := fun q hq => toS_holds (α := Slt) Dft.dft 112 (fun y => pTo y) q (md_len' hq) (by omega) (fun i a h => md_mem hq (List.mem_of_getElem? h)) rfl
theorem all33 (w : World) (hJ : J w) : CtAt Tryz.prog ct33 w :=
  ct_by ok33 (cs33 w hJ) Tryz.func33 (by kernel_rfl) (H := (hint [(3, [.reg 3 71 ls71 true true, .val 4 (.int .i64)])])) law33 (by kernel_rfl)
noncomputable def E8 : Env := { tt, eqs := [], cts := [ct33], deep := true }
theorem ok8 : EnvOk Tryz.prog E8 := ⟨ttOk, by kernel_rfl, rfl, mixOk⟩
theorem cs8 (w0 : World) (hJ : J w0) : EnvCts Tryz.prog E8 w0 w0.heap.size := by
  refine ⟨fun c hc => ?_, fun c hc => ?_⟩
  · rcases List.mem_cons.1 hc with rfl | hc
    · exact fun w hb => all33 w (J_below hJ hb)
    cases hc
  · cases hc
noncomputable def ct8 : Ct := { f := 8, ps := [.v true .ro ls24], rs := [(true, ls28)], shared := false, pre := fun (x : Shd) => pTo x, F := fun (x : Shd) => toF x, deep := true }
theorem law8 : ∀ q : Shd, pTo q → conj [pTo (q.2.2.1 : (List Slt))] (q = toF q) := fun q hq => ⟨(czh (czt (czt hq))), rfl⟩
theorem all8 (w : World) (hJ : J w) : CtAt Tryz.prog ct8 w :=
  ct_by ok8 (cs8 w hJ) Tryz.func8 (by kernel_rfl) (H := (hint [])) law8 (by kernel_rfl)
noncomputable def E47 : Env := { tt, eqs := [], cts := [ct8], deep := true }
theorem ok47 : EnvOk Tryz.prog E47 := ⟨ttOk, by kernel_rfl, rfl, mixOk⟩
theorem cs47 (w0 : World) (hJ : J w0) : EnvCts Tryz.prog E47 w0 w0.heap.size := by
  refine ⟨fun c hc => ?_, fun c hc => ?_⟩
  · rcases List.mem_cons.1 hc with rfl | hc
    · exact fun w hb => all8 w (J_below hJ hb)
    cases hc
  · cases hc
noncomputable def ct47 : Ct := { f := 47, ps := [.v false .ro ls34], rs := [(false, ls50)], shared := false, pre := fun (x : (List Shd)) => pTo x, F := fun (x : (List Shd)) => toF x, deep := true }
theorem law47 : ∀ q : (List Shd), pTo q → toS (α := Shd) Dft.dft 48 (fun y => pTo y) q (fun r => r = toF q) := fun q hq => toS_holds (α := Shd) Dft.dft 48 (fun y => pTo y) q (md_len' hq) (by omega) (fun i a h => md_mem hq (List.mem_of_getElem? h)) rfl
theorem all47 (w : World) (hJ : J w) : CtAt Tryz.prog ct47 w :=
  ct_by ok47 (cs47 w hJ) Tryz.func47 (by kernel_rfl) (H := (hint [(3, [.reg 3 28 ls28 true true, .val 4 (.int .i64)])])) law47 (by kernel_rfl)
noncomputable def E87 : Env := { tt, eqs := [], cts := [] }
theorem ok87 : EnvOk Tryz.prog E87 := ⟨ttOk, by kernel_rfl, rfl, mixOk⟩
theorem cs87 (w0 : World) (hJ : J w0) : EnvCts Tryz.prog E87 w0 w0.heap.size := by
  refine ⟨fun c hc => ?_, fun c hc => ?_⟩
  · cases hc
  · cases hc
noncomputable def ct87 : Ct := { f := 87, ps := [.v true .ro ls112], rs := [(true, ls117)], shared := false, pre := fun (x : Gen) => pTo x, F := fun (x : Gen) => toF x }
theorem law87 : ∀ q : Gen, pTo q → conj [] (q = toF q) := fun q hq => rfl
theorem all87 (w : World) (hJ : J w) : CtAt Tryz.prog ct87 w :=
  ct_by ok87 (cs87 w hJ) Tryz.func87 (by kernel_rfl) (H := (hint [])) law87 (by kernel_rfl)
noncomputable def E48 : Env := { tt, eqs := [], cts := [ct87] }
theorem ok48 : EnvOk Tryz.prog E48 := ⟨ttOk, by kernel_rfl, rfl, mixOk⟩
theorem cs48 (w0 : World) (hJ : J w0) : EnvCts Tryz.prog E48 w0 w0.heap.size := by
  refine ⟨fun c hc => ?_, fun c hc => ?_⟩
  · rcases List.mem_cons.1 hc with rfl | hc
    · exact fun w hb => all87 w (J_below hJ hb)
    cases hc
  · cases hc
noncomputable def ct48 : Ct := { f := 48, ps := [.v false .ro ls35], rs := [(false, ls51)], shared := false, pre := fun (x : (List Gen)) => pTo x, F := fun (x : (List Gen)) => toF x }
theorem law48 : ∀ q : (List Gen), pTo q → toS (α := Gen) Dft.dft 24 (fun y => pTo y) q (fun r => r = toF q) := fun q hq => toS_holds (α := Gen) Dft.dft 24 (fun y => pTo y) q (md_len' hq) (by omega) (fun i a h => md_mem hq (List.mem_of_getElem? h)) rfl
theorem all48 (w : World) (hJ : J w) : CtAt Tryz.prog ct48 w :=
  ct_by ok48 (cs48 w hJ) Tryz.func48 (by kernel_rfl) (H := (hint [(3, [.reg 3 117 ls117 true, .val 4 (.int .i64)])])) law48 (by kernel_rfl)
noncomputable def E16 : Env := { tt, eqs := [], cts := [ct47, ct48], deep := true }
theorem ok16 : EnvOk Tryz.prog E16 := ⟨ttOk, by kernel_rfl, rfl, mixOk⟩
theorem cs16 (w0 : World) (hJ : J w0) : EnvCts Tryz.prog E16 w0 w0.heap.size := by
  refine ⟨fun c hc => ?_, fun c hc => ?_⟩
  · rcases List.mem_cons.1 hc with rfl | hc
    · exact fun w hb => all47 w (J_below hJ hb)
    rcases List.mem_cons.1 hc with rfl | hc
    · exact fun w hb => all48 w (J_below hJ hb)
    cases hc
  · cases hc
noncomputable def ct16 : Ct := { f := 16, ps := [.v true .ro ls37], rs := [(true, ls53)], shared := false, pre := fun (x : Cch) => pTo x, F := fun (x : Cch) => toF x, deep := true }
theorem law16 : ∀ q : Cch, pTo q → conj [pTo (q.1 : (List Shd)), pTo (q.2 : (List Gen))] (q = toF q) := fun q hq => ⟨(czh hq), (czt hq), rfl⟩
theorem all16 (w : World) (hJ : J w) : CtAt Tryz.prog ct16 w :=
  ct_by ok16 (cs16 w hJ) Tryz.func16 (by kernel_rfl) (H := (hint [])) law16 (by kernel_rfl)
noncomputable def E17 : Env := { tt, eqs := [], cts := [ct49] }
theorem ok17 : EnvOk Tryz.prog E17 := ⟨ttOk, by kernel_rfl, rfl, mixOk⟩
theorem cs17 (w0 : World) (hJ : J w0) : EnvCts Tryz.prog E17 w0 w0.heap.size := by
  refine ⟨fun c hc => ?_, fun c hc => ?_⟩
  · rcases List.mem_cons.1 hc with rfl | hc
    · exact fun w hb => all49 w (J_below hJ hb)
    cases hc
  · cases hc
noncomputable def ct17 : Ct := { f := 17, ps := [.v true .ro ls40], rs := [(true, ls56)], shared := false, pre := fun (x : Req) => pTo x, F := fun (x : Req) => toF x }
theorem law17 : ∀ q : Req, pTo q → conj [pTo (q.2.2.1 : (List Fld))] (q = toF q) := fun q hq => ⟨(czh (czt (czt hq))), rfl⟩
theorem all17 (w : World) (hJ : J w) : CtAt Tryz.prog ct17 w :=
  ct_by ok17 (cs17 w hJ) Tryz.func17 (by kernel_rfl) (H := (hint [])) law17 (by kernel_rfl)
noncomputable def E32 : Env := { tt, eqs := [], cts := [] }
theorem ok32 : EnvOk Tryz.prog E32 := ⟨ttOk, by kernel_rfl, rfl, mixOk⟩
theorem cs32 (w0 : World) (hJ : J w0) : EnvCts Tryz.prog E32 w0 w0.heap.size := by
  refine ⟨fun c hc => ?_, fun c hc => ?_⟩
  · cases hc
  · cases hc
noncomputable def ct32 : Ct := { f := 32, ps := [.v false .ro ls3, .v false .ro ls3, .v false .ro ls3], rs := [(false, ls4)], shared := false, pre := fun (x : Int × Int × Int) => pIn x.1 x.2.1 x.2.2, F := fun (x : Int × Int × Int) => mIn x.1 x.2.1 x.2.2 }
theorem law32 : ∀ x : Int × Int × Int, pIn x.1 x.2.1 x.2.2 → s_spec_l1In x.1 x.2.1 x.2.2 (fun r => r = mIn x.1 x.2.1 x.2.2) := fun x _ => spec_l1In_ok x.1 x.2.1 x.2.2
theorem all32 (w : World) (hJ : J w) : CtAt Tryz.prog ct32 w :=
  ct_by ok32 (cs32 w hJ) Tryz.func32 (by kernel_rfl) (H := (hint [])) law32 (by kernel_rfl)
noncomputable def E69 : Env := { tt, eqs := [], cts := [] }
theorem ok69 : EnvOk Tryz.prog E69 := ⟨ttOk, by kernel_rfl, rfl, mixOk⟩
theorem cs69 (w0 : World) (hJ : J w0) : EnvCts Tryz.prog E69 w0 w0.heap.size := by
  refine ⟨fun c hc => ?_, fun c hc => ?_⟩
  · cases hc
  · cases hc
noncomputable def ct69 : Ct := { f := 69, ps := [.v true .ro ls28], rs := [(false, ls3)], shared := false, pre := fun (x : Shd) => pFilledS x, F := fun (x : Shd) => mFilledS x }
theorem law69 : ∀ x : Shd, pFilledS x → s_spec_l12Filled x (fun r => r = mFilledS x) := fun x h => spec_l12Filled_ok x h
theorem all69 (w : World) (hJ : J w) : CtAt Tryz.prog ct69 w :=
  ct_by ok69 (cs69 w hJ) Tryz.func69 (by kernel_rfl) (H := (hint [(3, [.val 3 (.int .i64), .val 4 (.int .i64)])])) law69 (by kernel_rfl)
noncomputable def E83 : Env := { tt, eqs := [], cts := [ct32] }
theorem ok83 : EnvOk Tryz.prog E83 := ⟨ttOk, by kernel_rfl, rfl, mixOk⟩
theorem cs83 (w0 : World) (hJ : J w0) : EnvCts Tryz.prog E83 w0 w0.heap.size := by
  refine ⟨fun c hc => ?_, fun c hc => ?_⟩
  · rcases List.mem_cons.1 hc with rfl | hc
    · exact fun w hb => all32 w (J_below hJ hb)
    cases hc
  · cases hc
noncomputable def ct83 : Ct := { f := 83, ps := [.v false .ro ls9], rs := [(false, ls4)], shared := false, pre := fun (x : S) => pUriOk x, F := fun (x : S) => mUriOk x }
theorem law83 : ∀ x : S, pUriOk x → s_spec_UriOk x (fun r => r = mUriOk x) := fun x h => spec_UriOk_ok x h
theorem all83 (w : World) (hJ : J w) : CtAt Tryz.prog ct83 w :=
  ct_by ok83 (cs83 w hJ) Tryz.func83 (by kernel_rfl) (H := (hint [(2, [.val 3 (.int .i64)])])) law83 (by kernel_rfl)
noncomputable def E114 : Env := { tt, eqs := [], cts := [] }
theorem ok114 : EnvOk Tryz.prog E114 := ⟨ttOk, by kernel_rfl, rfl, mixOk⟩
theorem cs114 (w0 : World) (hJ : J w0) : EnvCts Tryz.prog E114 w0 w0.heap.size := by
  refine ⟨fun c hc => ?_, fun c hc => ?_⟩
  · cases hc
  · cases hc
noncomputable def ct114 : Ct := { f := 114, ps := [.v false .ro ls43, .v false .ro ls9], rs := [(false, ls9), (false, ls4)], shared := false, pre := fun (x : (List Fld) × S) => pFieldGet x.1 x.2, F := fun (x : (List Fld) × S) => mFieldGet x.1 x.2 }
theorem law114 : ∀ x : (List Fld) × S, pFieldGet x.1 x.2 → s_spec_FieldGet x.1 x.2 (fun r => r = mFieldGet x.1 x.2) := fun x h => spec_FieldGet_ok x.1 x.2 h
theorem all114 (w : World) (hJ : J w) : CtAt Tryz.prog ct114 w :=
  ct_by ok114 (cs114 w hJ) Tryz.func114 (by kernel_rfl) (H := (hint [(4, [.val 6 (.str), .val 7 (.bool), .val 8 (.int .i64)])])) law114 (by kernel_rfl)
noncomputable def E149 : Env := { tt, eqs := [], cts := [] }
theorem ok149 : EnvOk Tryz.prog E149 := ⟨ttOk, by kernel_rfl, rfl, mixOk⟩
theorem cs149 (w0 : World) (hJ : J w0) : EnvCts Tryz.prog E149 w0 w0.heap.size := by
  refine ⟨fun c hc => ?_, fun c hc => ?_⟩
  · cases hc
  · cases hc
noncomputable def ct149 : Ct := { f := 149, ps := [.v false .ro ls5], rs := [(false, ls4)], shared := false, pre := fun (x : Int) => pToken x, F := fun (x : Int) => mToken x }
theorem law149 : ∀ x : Int, pToken x → s_spec_l2Token x (fun r => r = mToken x) := fun x _ => spec_l2Token_ok x
theorem all149 (w : World) (hJ : J w) : CtAt Tryz.prog ct149 w :=
  ct_by ok149 (cs149 w hJ) Tryz.func149 (by kernel_rfl) (H := (hint [])) law149 (by kernel_rfl)
noncomputable def E140 : Env := { tt, eqs := [], cts := [ct149] }
theorem ok140 : EnvOk Tryz.prog E140 := ⟨ttOk, by kernel_rfl, rfl, mixOk⟩
theorem cs140 (w0 : World) (hJ : J w0) : EnvCts Tryz.prog E140 w0 w0.heap.size := by
  refine ⟨fun c hc => ?_, fun c hc => ?_⟩
  · rcases List.mem_cons.1 hc with rfl | hc
    · exact fun w hb => all149 w (J_below hJ hb)
    cases hc
  · cases hc
noncomputable def ct140 : Ct := { f := 140, ps := [.v false .ro ls9], rs := [(false, ls4)], shared := false, pre := fun (x : S) => pIsTokenText x, F := fun (x : S) => mIsTokenText x }
theorem law140 : ∀ x : S, pIsTokenText x → s_spec_IsTokenText x (fun r => r = mIsTokenText x) := fun x h => spec_IsTokenText_ok x h
theorem all140 (w : World) (hJ : J w) : CtAt Tryz.prog ct140 w :=
  ct_by ok140 (cs140 w hJ) Tryz.func140 (by kernel_rfl) (H := (hint [(2, [.val 3 (.int .i64)])])) law140 (by kernel_rfl)
noncomputable def E123 : Env := { tt, eqs := [], cts := [] }
theorem ok123 : EnvOk Tryz.prog E123 := ⟨ttOk, by kernel_rfl, rfl, mixOk⟩
theorem cs123 (w0 : World) (hJ : J w0) : EnvCts Tryz.prog E123 w0 w0.heap.size := by
  refine ⟨fun c hc => ?_, fun c hc => ?_⟩
  · cases hc
  · cases hc
noncomputable def ct123 : Ct := { f := 123, ps := [.v false .ro ls9], rs := [(false, ls9)], shared := false, pre := fun (x : S) => pLower x, F := fun (x : S) => mLower x }
theorem law123 : ∀ x : S, pLower x → s_spec_Lower x (fun r => r = mLower x) := fun x h => spec_Lower_ok x h
theorem all123 (w : World) (hJ : J w) : CtAt Tryz.prog ct123 w :=
  ct_by ok123 (cs123 w hJ) Tryz.func123 (by kernel_rfl) (H := (hint [(3, [.val 4 (.int .i64), .reg 3 5 [.int .u8] false])])) law123 (by kernel_rfl)
noncomputable def E145 : Env := { tt, eqs := [], cts := [] }
theorem ok145 : EnvOk Tryz.prog E145 := ⟨ttOk, by kernel_rfl, rfl, mixOk⟩
theorem cs145 (w0 : World) (hJ : J w0) : EnvCts Tryz.prog E145 w0 w0.heap.size := by
  refine ⟨fun c hc => ?_, fun c hc => ?_⟩
  · cases hc
  · cases hc
noncomputable def ct145 : Ct := { f := 145, ps := [.v false .ro ls5], rs := [(false, ls4)], shared := false, pre := fun (x : Int) => pBlank x, F := fun (x : Int) => mBlank x }
theorem law145 : ∀ x : Int, pBlank x → s_spec_l2Blank x (fun r => r = mBlank x) := fun x _ => spec_l2Blank_ok x
theorem all145 (w : World) (hJ : J w) : CtAt Tryz.prog ct145 w :=
  ct_by ok145 (cs145 w hJ) Tryz.func145 (by kernel_rfl) (H := (hint [])) law145 (by kernel_rfl)
noncomputable def E133 : Env := { tt, eqs := [], cts := [ct145] }
theorem ok133 : EnvOk Tryz.prog E133 := ⟨ttOk, by kernel_rfl, rfl, mixOk⟩
theorem cs133 (w0 : World) (hJ : J w0) : EnvCts Tryz.prog E133 w0 w0.heap.size := by
  refine ⟨fun c hc => ?_, fun c hc => ?_⟩
  · rcases List.mem_cons.1 hc with rfl | hc
    · exact fun w hb => all145 w (J_below hJ hb)
    cases hc
  · cases hc
noncomputable def ct133 : Ct := { f := 133, ps := [.v false .ro ls9], rs := [(false, ls9)], shared := false, pre := fun (x : S) => pTrim x, F := fun (x : S) => mTrim x }
theorem law133 : ∀ x : S, pTrim x → s_spec_Trim x (fun r => r = mTrim x) := fun x h => spec_Trim_ok x h
theorem all133 (w : World) (hJ : J w) : CtAt Tryz.prog ct133 w :=
  ct_by ok133 (cs133 w hJ) Tryz.func133 (by kernel_rfl) (H := (hint [(1, [.val 0 (.str)]), (3, [.val 0 (.str)])])) law133 (by kernel_rfl)
noncomputable def E141 : Env := { tt, eqs := [], cts := [ct133] }
theorem ok141 : EnvOk Tryz.prog E141 := ⟨ttOk, by kernel_rfl, rfl, mixOk⟩
theorem cs141 (w0 : World) (hJ : J w0) : EnvCts Tryz.prog E141 w0 w0.heap.size := by
  refine ⟨fun c hc => ?_, fun c hc => ?_⟩
  · rcases List.mem_cons.1 hc with rfl | hc
    · exact fun w hb => all133 w (J_below hJ hb)
    cases hc
  · cases hc
noncomputable def ct141 : Ct := { f := 141, ps := [.v false .ro ls9], rs := [(false, ls4)], shared := false, pre := fun (x : S) => pIsValueText x, F := fun (x : S) => mIsValueText x }
theorem law141 : ∀ x : S, pIsValueText x → s_spec_IsValueText x (fun r => r = mIsValueText x) := fun x h => spec_IsValueText_ok x h
theorem all141 (w : World) (hJ : J w) : CtAt Tryz.prog ct141 w :=
  ct_by ok141 (cs141 w hJ) Tryz.func141 (by kernel_rfl) (H := (hint [(2, [.val 3 (.int .i64)])])) law141 (by kernel_rfl)
noncomputable def E128 : Env := { tt, eqs := [], cts := [ct140, ct123, ct141] }
theorem ok128 : EnvOk Tryz.prog E128 := ⟨ttOk, by kernel_rfl, rfl, mixOk⟩
theorem cs128 (w0 : World) (hJ : J w0) : EnvCts Tryz.prog E128 w0 w0.heap.size := by
  refine ⟨fun c hc => ?_, fun c hc => ?_⟩
  · rcases List.mem_cons.1 hc with rfl | hc
    · exact fun w hb => all140 w (J_below hJ hb)
    rcases List.mem_cons.1 hc with rfl | hc
    · exact fun w hb => all123 w (J_below hJ hb)
    rcases List.mem_cons.1 hc with rfl | hc
    · exact fun w hb => all141 w (J_below hJ hb)
    cases hc
  · cases hc
noncomputable def ct128 : Ct := { f := 128, ps := [.v true .ro ls122], rs := [(false, ls4)], shared := false, pre := fun (x : Fld) => pFieldOk x, F := fun (x : Fld) => mFieldOk x }
theorem law128 : ∀ x : Fld, pFieldOk x → s_spec_l3FieldOk x (fun r => r = mFieldOk x) := fun x h => spec_l3FieldOk_ok x h
theorem all128 (w : World) (hJ : J w) : CtAt Tryz.prog ct128 w :=
  ct_by ok128 (cs128 w hJ) Tryz.func128 (by kernel_rfl) (H := (hint [])) law128 (by kernel_rfl)
noncomputable def E119 : Env := { tt, eqs := [], cts := [ct128] }
theorem ok119 : EnvOk Tryz.prog E119 := ⟨ttOk, by kernel_rfl, rfl, mixOk⟩
theorem cs119 (w0 : World) (hJ : J w0) : EnvCts Tryz.prog E119 w0 w0.heap.size := by
  refine ⟨fun c hc => ?_, fun c hc => ?_⟩
  · rcases List.mem_cons.1 hc with rfl | hc
    · exact fun w hb => all128 w (J_below hJ hb)
    cases hc
  · cases hc
noncomputable def ct119 : Ct := { f := 119, ps := [.v false .ro ls43], rs := [(false, ls4)], shared := false, pre := fun (x : (List Fld)) => pFieldsOk x, F := fun (x : (List Fld)) => mFieldsOk x }
theorem law119 : ∀ x : (List Fld), pFieldsOk x → s_spec_FieldsOk x (fun r => r = mFieldsOk x) := fun x h => spec_FieldsOk_ok x h
theorem all119 (w : World) (hJ : J w) : CtAt Tryz.prog ct119 w :=
  ct_by ok119 (cs119 w hJ) Tryz.func119 (by kernel_rfl) (H := (hint [(2, [.val 3 (.int .i64)])])) law119 (by kernel_rfl)
noncomputable def E108 : Env := { tt, eqs := [], cts := [ct114, ct119] }
theorem ok108 : EnvOk Tryz.prog E108 := ⟨ttOk, by kernel_rfl, rfl, mixOk⟩
theorem cs108 (w0 : World) (hJ : J w0) : EnvCts Tryz.prog E108 w0 w0.heap.size := by
  refine ⟨fun c hc => ?_, fun c hc => ?_⟩
  · rcases List.mem_cons.1 hc with rfl | hc
    · exact fun w hb => all114 w (J_below hJ hb)
    rcases List.mem_cons.1 hc with rfl | hc
    · exact fun w hb => all119 w (J_below hJ hb)
    cases hc
  · cases hc
noncomputable def ct108 : Ct := { f := 108, ps := [.v false .ro ls43], rs := [(false, ls4)], shared := false, pre := fun (x : (List Fld)) => pOwnFields x, F := fun (x : (List Fld)) => mOwnFields x }
theorem law108 : ∀ x : (List Fld), pOwnFields x → s_spec_l6Plain x (fun r => r = mOwnFields x) := fun x h => spec_l6Plain_ok x h
theorem all108 (w : World) (hJ : J w) : CtAt Tryz.prog ct108 w :=
  ct_by ok108 (cs108 w hJ) Tryz.func108 (by kernel_rfl) (H := (hint [])) law108 (by kernel_rfl)
noncomputable def E99 : Env := { tt, eqs := [], cts := [ct32, ct108] }
theorem ok99 : EnvOk Tryz.prog E99 := ⟨ttOk, by kernel_rfl, rfl, mixOk⟩
theorem cs99 (w0 : World) (hJ : J w0) : EnvCts Tryz.prog E99 w0 w0.heap.size := by
  refine ⟨fun c hc => ?_, fun c hc => ?_⟩
  · rcases List.mem_cons.1 hc with rfl | hc
    · exact fun w hb => all32 w (J_below hJ hb)
    rcases List.mem_cons.1 hc with rfl | hc
    · exact fun w hb => all108 w (J_below hJ hb)
    cases hc
  · cases hc
noncomputable def ct99 : Ct := { f := 99, ps := [.v true .ro ls45], rs := [(false, ls4)], shared := false, pre := fun (x : Rsp) => pResponseOk x, F := fun (x : Rsp) => mResponseOk x }
theorem law99 : ∀ x : Rsp, pResponseOk x → s_spec_ResponseOk x (fun r => r = mResponseOk x) := fun x h => spec_ResponseOk_ok x h
theorem all99 (w : World) (hJ : J w) : CtAt Tryz.prog ct99 w :=
  ct_by ok99 (cs99 w hJ) Tryz.func99 (by kernel_rfl) (H := (hint [])) law99 (by kernel_rfl)
noncomputable def E70 : Env := { tt, eqs := [], cts := [ct83, ct99, ct32] }
theorem ok70 : EnvOk Tryz.prog E70 := ⟨ttOk, by kernel_rfl, rfl, mixOk⟩
theorem cs70 (w0 : World) (hJ : J w0) : EnvCts Tryz.prog E70 w0 w0.heap.size := by
  refine ⟨fun c hc => ?_, fun c hc => ?_⟩
  · rcases List.mem_cons.1 hc with rfl | hc
    · exact fun w hb => all83 w (J_below hJ hb)
    rcases List.mem_cons.1 hc with rfl | hc
    · exact fun w hb => all99 w (J_below hJ hb)
    rcases List.mem_cons.1 hc with rfl | hc
    · exact fun w hb => all32 w (J_below hJ hb)
    cases hc
  · cases hc
noncomputable def ct70 : Ct := { f := 70, ps := [.v true .ro ls47], rs := [(false, ls4)], shared := false, pre := fun (x : Sto) => pStoredOk x, F := fun (x : Sto) => mStoredOk x }
theorem law70 : ∀ x : Sto, pStoredOk x → s_spec_StoredOk x (fun r => r = mStoredOk x) := fun x h => spec_StoredOk_ok x h
theorem all70 (w : World) (hJ : J w) : CtAt Tryz.prog ct70 w :=
  ct_by ok70 (cs70 w hJ) Tryz.func70 (by kernel_rfl) (H := (hint [])) law70 (by kernel_rfl)
noncomputable def E100 : Env := { tt, eqs := [122], cts := [] }
theorem ok100 : EnvOk Tryz.prog E100 := ⟨ttOk, by kernel_rfl, rfl, mixOk⟩
theorem cs100 (w0 : World) (hJ : J w0) : EnvCts Tryz.prog E100 w0 w0.heap.size := by
  refine ⟨fun c hc => ?_, fun c hc => ?_⟩
  · cases hc
  · cases hc
noncomputable def ct100 : Ct := { f := 100, ps := [.v false .ro ls43, .v false .ro ls43], rs := [(false, ls4)], shared := false, pre := fun (x : (List Fld) × (List Fld)) => pSameFields x.1 x.2, F := fun (x : (List Fld) × (List Fld)) => mSameFields x.1 x.2 }
theorem law100 : ∀ x : (List Fld) × (List Fld), pSameFields x.1 x.2 → s_spec_SameFields x.1 x.2 (fun r => r = mSameFields x.1 x.2) := fun x h => spec_SameFields_ok x.1 x.2 h
theorem all100 (w : World) (hJ : J w) : CtAt Tryz.prog ct100 w :=
  ct_by ok100 (cs100 w hJ) Tryz.func100 (by kernel_rfl) (H := (hint [(4, [.val 5 (.int .i64)])])) law100 (by kernel_rfl)
noncomputable def E71 : Env := { tt, eqs := [], cts := [ct100] }
theorem ok71 : EnvOk Tryz.prog E71 := ⟨ttOk, by kernel_rfl, rfl, mixOk⟩
theorem cs71 (w0 : World) (hJ : J w0) : EnvCts Tryz.prog E71 w0 w0.heap.size := by
  refine ⟨fun c hc => ?_, fun c hc => ?_⟩
  · rcases List.mem_cons.1 hc with rfl | hc
    · exact fun w hb => all100 w (J_below hJ hb)
    cases hc
  · cases hc
noncomputable def ct71 : Ct := { f := 71, ps := [.v true .ro ls47, .v true .ro ls47], rs := [(false, ls4)], shared := false, pre := fun (x : Sto × Sto) => pStandAlike x.1 x.2, F := fun (x : Sto × Sto) => mStandAlike x.1 x.2 }
theorem law71 : ∀ x : Sto × Sto, pStandAlike x.1 x.2 → s_spec_l12Same x.1 x.2 (fun r => r = mStandAlike x.1 x.2) := fun x h => spec_l12Same_ok x.1 x.2 h
theorem all71 (w : World) (hJ : J w) : CtAt Tryz.prog ct71 w :=
  ct_by ok71 (cs71 w hJ) Tryz.func71 (by kernel_rfl) (H := (hint [])) law71 (by kernel_rfl)
noncomputable def E31 : Env := { tt, eqs := [], cts := [ct32, ct69, ct70, ct71] }
theorem ok31 : EnvOk Tryz.prog E31 := ⟨ttOk, by kernel_rfl, rfl, mixOk⟩
theorem cs31 (w0 : World) (hJ : J w0) : EnvCts Tryz.prog E31 w0 w0.heap.size := by
  refine ⟨fun c hc => ?_, fun c hc => ?_⟩
  · rcases List.mem_cons.1 hc with rfl | hc
    · exact fun w hb => all32 w (J_below hJ hb)
    rcases List.mem_cons.1 hc with rfl | hc
    · exact fun w hb => all69 w (J_below hJ hb)
    rcases List.mem_cons.1 hc with rfl | hc
    · exact fun w hb => all70 w (J_below hJ hb)
    rcases List.mem_cons.1 hc with rfl | hc
    · exact fun w hb => all71 w (J_below hJ hb)
    cases hc
  · cases hc
noncomputable def ct31 : Ct := { f := 31, ps := [.v true .ro ls28], rs := [(false, ls4)], shared := false, pre := fun (x : Shd) => pShardOk x, F := fun (x : Shd) => mShardOk x }
theorem law31 : ∀ x : Shd, pShardOk x → s_spec_ShardOk x (fun r => r = mShardOk x) := fun x h => spec_ShardOk_ok x h
theorem all31 (w : World) (hJ : J w) : CtAt Tryz.prog ct31 w :=
  ct_by ok31 (cs31 w hJ) Tryz.func31 (by kernel_rfl) (H := (hint [(6, [.val 3 (.int .i64)]), (11, [.val 4 (.int .i64)])])) law31 (by kernel_rfl)
noncomputable def E84 : Env := { tt, eqs := [], cts := [] }
theorem ok84 : EnvOk Tryz.prog E84 := ⟨ttOk, by kernel_rfl, rfl, mixOk⟩
theorem cs84 (w0 : World) (hJ : J w0) : EnvCts Tryz.prog E84 w0 w0.heap.size := by
  refine ⟨fun c hc => ?_, fun c hc => ?_⟩
  · cases hc
  · cases hc
noncomputable def ct84 : Ct := { f := 84, ps := [.v false .ro ls9], rs := [(false, ls3)], shared := false, pre := fun (x : S) => pFnv x, F := fun (x : S) => mFnv x }
theorem law84 : ∀ x : S, pFnv x → s_spec_Fnv x (fun r => r = mFnv x) := fun x h => spec_Fnv_ok x h
theorem all84 (w : World) (hJ : J w) : CtAt Tryz.prog ct84 w :=
  ct_by ok84 (cs84 w hJ) Tryz.func84 (by kernel_rfl) (H := (hint [(3, [.val 3 (.int .i64), .val 4 (.int .i64)])])) law84 (by kernel_rfl)
noncomputable def E44 : Env := { tt, eqs := [], cts := [ct84] }
theorem ok44 : EnvOk Tryz.prog E44 := ⟨ttOk, by kernel_rfl, rfl, mixOk⟩
theorem cs44 (w0 : World) (hJ : J w0) : EnvCts Tryz.prog E44 w0 w0.heap.size := by
  refine ⟨fun c hc => ?_, fun c hc => ?_⟩
  · rcases List.mem_cons.1 hc with rfl | hc
    · exact fun w hb => all84 w (J_below hJ hb)
    cases hc
  · cases hc
noncomputable def ct44 : Ct := { f := 44, ps := [.v true .ro ls53, .v false .ro ls9], rs := [(false, ls3)], shared := false, pre := fun (x : Cch × S) => pShardOf x.1 x.2, F := fun (x : Cch × S) => mShardOf x.1 x.2 }
theorem law44 : ∀ x : Cch × S, pShardOf x.1 x.2 → s_spec_ShardOf x.1 x.2 (fun r => r = mShardOf x.1 x.2) := fun x h => spec_ShardOf_ok x.1 x.2 h
theorem all44 (w : World) (hJ : J w) : CtAt Tryz.prog ct44 w :=
  ct_by ok44 (cs44 w hJ) Tryz.func44 (by kernel_rfl) (H := (hint [])) law44 (by kernel_rfl)
noncomputable def E43 : Env := { tt, eqs := [], cts := [ct32, ct31, ct44, ct83] }
theorem ok43 : EnvOk Tryz.prog E43 := ⟨ttOk, by kernel_rfl, rfl, mixOk⟩
theorem cs43 (w0 : World) (hJ : J w0) : EnvCts Tryz.prog E43 w0 w0.heap.size := by
  refine ⟨fun c hc => ?_, fun c hc => ?_⟩
  · rcases List.mem_cons.1 hc with rfl | hc
    · exact fun w hb => all32 w (J_below hJ hb)
    rcases List.mem_cons.1 hc with rfl | hc
    · exact fun w hb => all31 w (J_below hJ hb)
    rcases List.mem_cons.1 hc with rfl | hc
    · exact fun w hb => all44 w (J_below hJ hb)
    rcases List.mem_cons.1 hc with rfl | hc
    · exact fun w hb => all83 w (J_below hJ hb)
    cases hc
  · cases hc
noncomputable def ct43 : Ct := { f := 43, ps := [.v true .ro ls53], rs := [(false, ls4)], shared := false, pre := fun (x : Cch) => pCacheOk x, F := fun (x : Cch) => mCacheOk x }
theorem law43 : ∀ x : Cch, pCacheOk x → s_spec_CacheOk x (fun r => r = mCacheOk x) := fun x h => spec_CacheOk_ok x h
theorem all43 (w : World) (hJ : J w) : CtAt Tryz.prog ct43 w :=
  ct_by ok43 (cs43 w hJ) Tryz.func43 (by kernel_rfl) (H := (hint [(4, [.val 3 (.int .i64)]), (9, [.val 4 (.int .i64)]), (14, [.val 5 (.int .i64)])])) law43 (by kernel_rfl)
noncomputable def E122 : Env := { tt, eqs := [], cts := [ct133] }
theorem ok122 : EnvOk Tryz.prog E122 := ⟨ttOk, by kernel_rfl, rfl, mixOk⟩
theorem cs122 (w0 : World) (hJ : J w0) : EnvCts Tryz.prog E122 w0 w0.heap.size := by
  refine ⟨fun c hc => ?_, fun c hc => ?_⟩
  · rcases List.mem_cons.1 hc with rfl | hc
    · exact fun w hb => all133 w (J_below hJ hb)
    cases hc
  · cases hc
noncomputable def ct122 : Ct := { f := 122, ps := [.v false .ro ls9], rs := [(false, ls138)], shared := false, pre := fun (x : S) => pSplitList x, F := fun (x : S) => mSplitList x }
theorem law122 : ∀ x : S, pSplitList x → s_spec_SplitList x (fun r => r = mSplitList x) := fun x h => spec_SplitList_ok x h
theorem all122 (w : World) (hJ : J w) : CtAt Tryz.prog ct122 w :=
  ct_by ok122 (cs122 w hJ) Tryz.func122 (by kernel_rfl) (H := (hint [(5, [.reg 3 9 [.str] true, .val 4 (.int .i64), .val 5 (.bool), .val 6 (.int .i64)])])) law122 (by kernel_rfl)
noncomputable def E113 : Env := { tt, eqs := [], cts := [ct114, ct122, ct123] }
theorem ok113 : EnvOk Tryz.prog E113 := ⟨ttOk, by kernel_rfl, rfl, mixOk⟩
theorem cs113 (w0 : World) (hJ : J w0) : EnvCts Tryz.prog E113 w0 w0.heap.size := by
  refine ⟨fun c hc => ?_, fun c hc => ?_⟩
  · rcases List.mem_cons.1 hc with rfl | hc
    · exact fun w hb => all114 w (J_below hJ hb)
    rcases List.mem_cons.1 hc with rfl | hc
    · exact fun w hb => all122 w (J_below hJ hb)
    rcases List.mem_cons.1 hc with rfl | hc
    · exact fun w hb => all123 w (J_below hJ hb)
    cases hc
  · cases hc
noncomputable def ct113 : Ct := { f := 113, ps := [.v true .ro ls45], rs := [(false, ls138)], shared := false, pre := fun (x : Rsp) => pVaryNames x, F := fun (x : Rsp) => mVaryNames x }
theorem law113 : ∀ x : Rsp, pVaryNames x → s_spec_VaryNames x (fun r => r = mVaryNames x) := fun x h => spec_VaryNames_ok x h
theorem all113 (w : World) (hJ : J w) : CtAt Tryz.prog ct113 w :=
  ct_by ok113 (cs113 w hJ) Tryz.func113 (by kernel_rfl) (H := (hint [(5, [.reg 3 9 [.str] true, .val 7 (.int .i64)]), (10, [.val 9 (.bool), .val 10 (.int .i64)])])) law113 (by kernel_rfl)
noncomputable def E115 : Env := { tt, eqs := [], cts := [ct122] }
theorem ok115 : EnvOk Tryz.prog E115 := ⟨ttOk, by kernel_rfl, rfl, mixOk⟩
theorem cs115 (w0 : World) (hJ : J w0) : EnvCts Tryz.prog E115 w0 w0.heap.size := by
  refine ⟨fun c hc => ?_, fun c hc => ?_⟩
  · rcases List.mem_cons.1 hc with rfl | hc
    · exact fun w hb => all122 w (J_below hJ hb)
    cases hc
  · cases hc
noncomputable def ct115 : Ct := { f := 115, ps := [.v false .ro ls9], rs := [(false, ls9)], shared := false, pre := fun (x : S) => pNormal x, F := fun (x : S) => mNormal x }
theorem law115 : ∀ x : S, pNormal x → s_spec_Normal x (fun r => r = mNormal x) := fun x h => spec_Normal_ok x h
theorem all115 (w : World) (hJ : J w) : CtAt Tryz.prog ct115 w :=
  ct_by ok115 (cs115 w hJ) Tryz.func115 (by kernel_rfl) (H := (hint [(4, [.val 4 (.str), .val 5 (.int .i64)])])) law115 (by kernel_rfl)
noncomputable def E105 : Env := { tt, eqs := [], cts := [ct113, ct114, ct115] }
theorem ok105 : EnvOk Tryz.prog E105 := ⟨ttOk, by kernel_rfl, rfl, mixOk⟩
theorem cs105 (w0 : World) (hJ : J w0) : EnvCts Tryz.prog E105 w0 w0.heap.size := by
  refine ⟨fun c hc => ?_, fun c hc => ?_⟩
  · rcases List.mem_cons.1 hc with rfl | hc
    · exact fun w hb => all113 w (J_below hJ hb)
    rcases List.mem_cons.1 hc with rfl | hc
    · exact fun w hb => all114 w (J_below hJ hb)
    rcases List.mem_cons.1 hc with rfl | hc
    · exact fun w hb => all115 w (J_below hJ hb)
    cases hc
  · cases hc
noncomputable def ct105 : Ct := { f := 105, ps := [.v true .ro ls56, .v true .ro ls45], rs := [(false, ls43)], shared := false, pre := fun (x : Req × Rsp) => pPicked x.1 x.2, F := fun (x : Req × Rsp) => mPicked x.1 x.2 }
theorem law105 : ∀ x : Req × Rsp, pPicked x.1 x.2 → s_spec_Picked x.1 x.2 (fun r => r = mPicked x.1 x.2) := fun x h => spec_Picked_ok x.1 x.2 h
theorem all105 (w : World) (hJ : J w) : CtAt Tryz.prog ct105 w :=
  ct_by ok105 (cs105 w hJ) Tryz.func105 (by kernel_rfl) (H := (hint [(4, [.reg 5 122 [.str, .str] true, .val 7 (.int .i64)])])) law105 (by kernel_rfl)
noncomputable def E85 : Env := { tt, eqs := [], cts := [ct105, ct100] }
theorem ok85 : EnvOk Tryz.prog E85 := ⟨ttOk, by kernel_rfl, rfl, mixOk⟩
theorem cs85 (w0 : World) (hJ : J w0) : EnvCts Tryz.prog E85 w0 w0.heap.size := by
  refine ⟨fun c hc => ?_, fun c hc => ?_⟩
  · rcases List.mem_cons.1 hc with rfl | hc
    · exact fun w hb => all105 w (J_below hJ hb)
    rcases List.mem_cons.1 hc with rfl | hc
    · exact fun w hb => all100 w (J_below hJ hb)
    cases hc
  · cases hc
noncomputable def ct85 : Ct := { f := 85, ps := [.v true .ro ls56, .v true .ro ls45, .v false .ro ls43], rs := [(false, ls4)], shared := false, pre := fun (x : Req × Rsp × (List Fld)) => pVaryFits x.1 x.2.1 x.2.2, F := fun (x : Req × Rsp × (List Fld)) => mVaryFits x.1 x.2.1 x.2.2 }
theorem law85 : ∀ x : Req × Rsp × (List Fld), pVaryFits x.1 x.2.1 x.2.2 → s_spec_VaryFits x.1 x.2.1 x.2.2 (fun r => r = mVaryFits x.1 x.2.1 x.2.2) := fun x h => spec_VaryFits_ok x.1 x.2.1 x.2.2 h
theorem all85 (w : World) (hJ : J w) : CtAt Tryz.prog ct85 w :=
  ct_by ok85 (cs85 w hJ) Tryz.func85 (by kernel_rfl) (H := (hint [])) law85 (by kernel_rfl)
noncomputable def E45 : Env := { tt, eqs := [], cts := [ct31, ct85] }
theorem ok45 : EnvOk Tryz.prog E45 := ⟨ttOk, by kernel_rfl, rfl, mixOk⟩
theorem cs45 (w0 : World) (hJ : J w0) : EnvCts Tryz.prog E45 w0 w0.heap.size := by
  refine ⟨fun c hc => ?_, fun c hc => ?_⟩
  · rcases List.mem_cons.1 hc with rfl | hc
    · exact fun w hb => all31 w (J_below hJ hb)
    rcases List.mem_cons.1 hc with rfl | hc
    · exact fun w hb => all85 w (J_below hJ hb)
    cases hc
  · cases hc
noncomputable def ct45 : Ct := { f := 45, ps := [.v true .ro ls28, .v true .ro ls56], rs := [(false, ls3)], shared := false, pre := fun (x : Shd × Req) => pShardFind x.1 x.2, F := fun (x : Shd × Req) => mShardFind x.1 x.2 }
theorem law45 : ∀ x : Shd × Req, pShardFind x.1 x.2 → s_spec_ShardFind x.1 x.2 (fun r => r = mShardFind x.1 x.2) := fun x h => spec_ShardFind_ok x.1 x.2 h
theorem all45 (w : World) (hJ : J w) : CtAt Tryz.prog ct45 w :=
  ct_by ok45 (cs45 w hJ) Tryz.func45 (by kernel_rfl) (H := (hint [(5, [.val 5 (.int .i64), .val 6 (.int .i64)])])) law45 (by kernel_rfl)
noncomputable def E86 : Env := { tt, eqs := [], cts := [] }
theorem ok86 : EnvOk Tryz.prog E86 := ⟨ttOk, by kernel_rfl, rfl, mixOk⟩
theorem cs86 (w0 : World) (hJ : J w0) : EnvCts Tryz.prog E86 w0 w0.heap.size := by
  refine ⟨fun c hc => ?_, fun c hc => ?_⟩
  · cases hc
  · cases hc
noncomputable def ct86 : Ct := { f := 86, ps := [.v true .ro ls45], rs := [(true, ls45)], shared := false, pre := fun (x : Rsp) => pL12Resp x, F := fun (x : Rsp) => mL12Resp x }
theorem law86 : ∀ x : Rsp, pL12Resp x → s_spec_l12Resp x (fun r => r = mL12Resp x) := fun x h => spec_l12Resp_ok x h
theorem all86 (w : World) (hJ : J w) : CtAt Tryz.prog ct86 w :=
  ct_by ok86 (cs86 w hJ) Tryz.func86 (by kernel_rfl) (H := (hint [])) law86 (by kernel_rfl)
noncomputable def E46 : Env := { tt, eqs := [], cts := [ct86] }
theorem ok46 : EnvOk Tryz.prog E46 := ⟨ttOk, by kernel_rfl, rfl, mixOk⟩
theorem cs46 (w0 : World) (hJ : J w0) : EnvCts Tryz.prog E46 w0 w0.heap.size := by
  refine ⟨fun c hc => ?_, fun c hc => ?_⟩
  · rcases List.mem_cons.1 hc with rfl | hc
    · exact fun w hb => all86 w (J_below hJ hb)
    cases hc
  · cases hc
noncomputable def ct46 : Ct := { f := 46, ps := [.v true .ro ls47], rs := [(true, ls47)], shared := false, pre := fun (x : Sto) => pL12One x, F := fun (x : Sto) => mL12One x }
theorem law46 : ∀ x : Sto, pL12One x → s_spec_l12One x (fun r => r = mL12One x) := fun x h => spec_l12One_ok x h
theorem all46 (w : World) (hJ : J w) : CtAt Tryz.prog ct46 w :=
  ct_by ok46 (cs46 w hJ) Tryz.func46 (by kernel_rfl) (H := (hint [])) law46 (by kernel_rfl)
noncomputable def E36 : Env := { tt, eqs := [], cts := [] }
theorem ok36 : EnvOk Tryz.prog E36 := ⟨ttOk, by kernel_rfl, rfl, mixOk⟩
theorem cs36 (w0 : World) (hJ : J w0) : EnvCts Tryz.prog E36 w0 w0.heap.size := by
  refine ⟨fun c hc => ?_, fun c hc => ?_⟩
  · cases hc
  · cases hc
noncomputable def ct36 : Ct := { f := 36, ps := [.v false .ro ls3, .v false .ro ls3, .v false .ro ls3], rs := [(false, ls4)], shared := false, pre := fun (x : Int × Int × Int) => pIn x.1 x.2.1 x.2.2, F := fun (x : Int × Int × Int) => mIn x.1 x.2.1 x.2.2 }
theorem law36 : ∀ x : Int × Int × Int, pIn x.1 x.2.1 x.2.2 → s_impl_in x.1 x.2.1 x.2.2 (fun r => r = mIn x.1 x.2.1 x.2.2) := fun x _ => impl_in_ok x.1 x.2.1 x.2.2
theorem all36 (w : World) (hJ : J w) : CtAt Tryz.prog ct36 w :=
  ct_by ok36 (cs36 w hJ) Tryz.func36 (by kernel_rfl) (H := (hint [])) law36 (by kernel_rfl)
noncomputable def E73 : Env := { tt, eqs := [], cts := [ct36] }
theorem ok73 : EnvOk Tryz.prog E73 := ⟨ttOk, by kernel_rfl, rfl, mixOk⟩
theorem cs73 (w0 : World) (hJ : J w0) : EnvCts Tryz.prog E73 w0 w0.heap.size := by
  refine ⟨fun c hc => ?_, fun c hc => ?_⟩
  · rcases List.mem_cons.1 hc with rfl | hc
    · exact fun w hb => all36 w (J_below hJ hb)
    cases hc
  · cases hc
noncomputable def ct73 : Ct := { f := 73, ps := [.v false .ro ls3, .v false .ro ls3], rs := [(false, ls4)], shared := false, pre := fun (x : Int × Int) => pShardSizes x.1 x.2, F := fun (x : Int × Int) => mShardSizes x.1 x.2 }
theorem law73 : ∀ x : Int × Int, pShardSizes x.1 x.2 → s_impl_shardSizes x.1 x.2 (fun r => r = mShardSizes x.1 x.2) := fun x _ => impl_shardSizes_ok x.1 x.2
theorem all73 (w : World) (hJ : J w) : CtAt Tryz.prog ct73 w :=
  ct_by ok73 (cs73 w hJ) Tryz.func73 (by kernel_rfl) (H := (hint [])) law73 (by kernel_rfl)
noncomputable def E90 : Env := { tt, eqs := [], cts := [ct36] }
theorem ok90 : EnvOk Tryz.prog E90 := ⟨ttOk, by kernel_rfl, rfl, mixOk⟩
theorem cs90 (w0 : World) (hJ : J w0) : EnvCts Tryz.prog E90 w0 w0.heap.size := by
  refine ⟨fun c hc => ?_, fun c hc => ?_⟩
  · rcases List.mem_cons.1 hc with rfl | hc
    · exact fun w hb => all36 w (J_below hJ hb)
    cases hc
  · cases hc
noncomputable def ct90 : Ct := { f := 90, ps := [.v false .ro ls9], rs := [(false, ls4)], shared := false, pre := fun (x : S) => pUriOk x, F := fun (x : S) => mUriOk x }
theorem law90 : ∀ x : S, pUriOk x → s_impl_UriOk x (fun r => r = mUriOk x) := fun x h => impl_UriOk_ok x h
theorem all90 (w : World) (hJ : J w) : CtAt Tryz.prog ct90 w :=
  ct_by ok90 (cs90 w hJ) Tryz.func90 (by kernel_rfl) (H := (hint [(2, [.val 6 (.int .i64)])])) law90 (by kernel_rfl)
noncomputable def E150 : Env := { tt, eqs := [], cts := [] }
theorem ok150 : EnvOk Tryz.prog E150 := ⟨ttOk, by kernel_rfl, rfl, mixOk⟩
theorem cs150 (w0 : World) (hJ : J w0) : EnvCts Tryz.prog E150 w0 w0.heap.size := by
  refine ⟨fun c hc => ?_, fun c hc => ?_⟩
  · cases hc
  · cases hc
noncomputable def ct150 : Ct := { f := 150, ps := [.v false .ro ls5], rs := [(false, ls4)], shared := false, pre := fun (x : Int) => pIsLetterOrDigit x, F := fun (x : Int) => mIsLetterOrDigit x }
theorem law150 : ∀ x : Int, pIsLetterOrDigit x → s_impl_isLetterOrDigit x (fun r => r = mIsLetterOrDigit x) := fun x _ => impl_isLetterOrDigit_ok x
theorem all150 (w : World) (hJ : J w) : CtAt Tryz.prog ct150 w :=
  ct_by ok150 (cs150 w hJ) Tryz.func150 (by kernel_rfl) (H := (hint [])) law150 (by kernel_rfl)
noncomputable def ct151 : Ct := indexByteCt 151
theorem all151 (w : World) (hJ : J w) : CtAt Tryz.prog ct151 w := indexByte_ct ⟨_, Tryz.func151, by kernel_rfl, by kernel_rfl⟩ (fun s c => Tryz.strings_IndexByte s c w)
noncomputable def E143 : Env := { tt, eqs := [], cts := [ct150, ct151] }
theorem ok143 : EnvOk Tryz.prog E143 := ⟨ttOk, by kernel_rfl, rfl, mixOk⟩
theorem cs143 (w0 : World) (hJ : J w0) : EnvCts Tryz.prog E143 w0 w0.heap.size := by
  refine ⟨fun c hc => ?_, fun c hc => ?_⟩
  · rcases List.mem_cons.1 hc with rfl | hc
    · exact fun w hb => all150 w (J_below hJ hb)
    rcases List.mem_cons.1 hc with rfl | hc
    · exact fun w hb => all151 w (J_below hJ hb)
    cases hc
  · cases hc
noncomputable def ct143 : Ct := { f := 143, ps := [.v false .ro ls9], rs := [(false, ls4)], shared := false, pre := fun (x : S) => pIsTokenText x, F := fun (x : S) => mIsTokenText x }
theorem law143 : ∀ x : S, pIsTokenText x → s_impl_IsTokenText x (fun r => r = mIsTokenText x) := fun x h => impl_IsTokenText_ok x h
theorem all143 (w : World) (hJ : J w) : CtAt Tryz.prog ct143 w :=
  ct_by ok143 (cs143 w hJ) Tryz.func143 (by kernel_rfl) (H := (hint [(2, [.val 6 (.int .i64)])])) law143 (by kernel_rfl)
set_option maxRecDepth 100000 in
theorem lower_calls125 (s : ByteArray) (hs : s.size ≤ 1073741824) (w : World) : Calls Tryz.prog 125 #[.string s] w fun e w' => e = .returned (.string (mLower s)) ∧ Below w.heap.size w w' := by
  obtain ⟨W1, cap, hconv, hW1⟩ := low_new Tryz.prog 9 132 5 w s Tryz.underlying9 Tryz.underlying132 Tryz.underlying5
  go_enter Tryz.func125, Tryz.ntmps125
  go_wp2
  go_loopg [10] s.size (fun gg v10 wr => ∃ i : Nat, i + gg = s.size ∧ v10 = .int .i64 (i : Int) ∧ Hid (LowW w.heap.size s i w wr))
  case atStart => exact ⟨0, by omega, rfl, hW1⟩
  case round =>
    obtain ⟨i, hi, rfl, hW⟩ := hrel
    have hH := hW.out
    by_cases hlt : i < s.size
    · have hcz := hH.2 i hlt
      rw [if_neg (Nat.lt_irrefl i)] at hcz
      have hlb := low_byte (bs s)[i]!
      have hx : ((bs s)[i]!).toNat < 256 := UInt8.toNat_lt _
      generalize hxe : ((bs s)[i]!).toNat = x at *
      obtain ⟨hc, hz⟩ := hcz
      have d1 : ((i : Int) < (s.size : Int)) := by omega
      have d0 : (0 : Int) ≤ (i : Int) := by omega
      have HC := (show Hid (i < s.size ∧ LowW w.heap.size s i w wr ∧ ((bs s)[i]!).toNat = x) from ⟨hlt, hH, hxe⟩)
      have HL := (show Hid _ from hlb)
      clear hH hlb hW hxe hlt
      by_cases c1 : 65 ≤ x
      · by_cases c2 : x ≤ 90
        · have k1 : decide (65 ≤ (x : Int)) = true := decide_eq_true (by omega)
          have k2 : decide ((x : Int) ≤ 90) = true := decide_eq_true (by omega)
          go_wp2
          go_roundg (gk - 1)
          case measure => have := HC.out.1; omega
          case rel =>
            obtain ⟨hlt, hH, hxe⟩ := HC.out
            refine ⟨i + 1, by omega, by simp, hH.next hlt ?_⟩
            rw [← HL.out.1 ⟨c1, c2⟩, IntKind.wrap_u8, IntKind.wrap_u8]; omega
        · have k1 : decide (65 ≤ (x : Int)) = true := decide_eq_true (by omega)
          have k2 : decide ((x : Int) ≤ 90) = false := decide_eq_false (by omega)
          go_wp2
          go_roundg (gk - 1)
          case measure => have := HC.out.1; omega
          case rel =>
            obtain ⟨hlt, hH, hxe⟩ := HC.out
            exact ⟨i + 1, by omega, by simp, hH.skip hlt (HL.out.2 (fun h => c2 h.2))⟩
      · have k1 : decide (65 ≤ (x : Int)) = false := decide_eq_false (by omega)
        go_wp2
        go_roundg (gk - 1)
        case measure => have := HC.out.1; omega
        case rel =>
          obtain ⟨hlt, hH, hxe⟩ := HC.out
          exact ⟨i + 1, by omega, by simp, hH.skip hlt (HL.out.2 (fun h => c1 h.1))⟩
    · have hie : i = s.size := by omega
      subst hie
      have hb := low_end Tryz.prog 132 9 5 w.heap.size cap w wr s Tryz.underlying132 Tryz.underlying5 Tryz.underlying9 hH
      have HC := (show Hid (Below w.heap.size w wr) from hH.1)
      clear hH hW hlt
      go_wp2
      go_ret
      exact ⟨rfl, HC.out⟩
noncomputable def ct125 : Ct := lowerCt 125
theorem all125 (w : World) (hJ : J w) : CtAt Tryz.prog ct125 w := lower_ct ⟨_, Tryz.func125, by kernel_rfl, by kernel_rfl⟩ (fun s h => lower_calls125 s h w)
noncomputable def ct146 : Ct := trimLCt 146
theorem all146 (w : World) (hJ : J w) : CtAt Tryz.prog ct146 w := trimL_ct ⟨_, Tryz.func146, by kernel_rfl, by kernel_rfl⟩ (fun s cs h1 h2 h3 => Go.Proofs.Any.strings_Trim_laid Tryz.lays160 (by kernel_rfl) s cs w h1 h2 h3)
noncomputable def E135 : Env := { tt, eqs := [], cts := [ct146] }
theorem ok135 : EnvOk Tryz.prog E135 := ⟨ttOk, by kernel_rfl, rfl, mixOk⟩
theorem cs135 (w0 : World) (hJ : J w0) : EnvCts Tryz.prog E135 w0 w0.heap.size := by
  refine ⟨fun c hc => ?_, fun c hc => ?_⟩
  · rcases List.mem_cons.1 hc with rfl | hc
    · exact fun w hb => all146 w (J_below hJ hb)
    cases hc
  · cases hc
noncomputable def ct135 : Ct := { f := 135, ps := [.v false .ro ls9], rs := [(false, ls9)], shared := false, pre := fun (x : S) => pTrim x, F := fun (x : S) => mTrim x }
theorem law135 : ∀ x : S, pTrim x → s_impl_Trim x (fun r => r = mTrim x) := fun x h => impl_Trim_ok x h
theorem all135 (w : World) (hJ : J w) : CtAt Tryz.prog ct135 w :=
  ct_by ok135 (cs135 w hJ) Tryz.func135 (by kernel_rfl) (H := (hint [])) law135 (by kernel_rfl)
noncomputable def E144 : Env := { tt, eqs := [], cts := [ct135] }
theorem ok144 : EnvOk Tryz.prog E144 := ⟨ttOk, by kernel_rfl, rfl, mixOk⟩
theorem cs144 (w0 : World) (hJ : J w0) : EnvCts Tryz.prog E144 w0 w0.heap.size := by
  refine ⟨fun c hc => ?_, fun c hc => ?_⟩
  · rcases List.mem_cons.1 hc with rfl | hc
    · exact fun w hb => all135 w (J_below hJ hb)
    cases hc
  · cases hc
noncomputable def ct144 : Ct := { f := 144, ps := [.v false .ro ls9], rs := [(false, ls4)], shared := false, pre := fun (x : S) => pIsValueText x, F := fun (x : S) => mIsValueText x }
theorem law144 : ∀ x : S, pIsValueText x → s_impl_IsValueText x (fun r => r = mIsValueText x) := fun x h => impl_IsValueText_ok x h
theorem all144 (w : World) (hJ : J w) : CtAt Tryz.prog ct144 w :=
  ct_by ok144 (cs144 w hJ) Tryz.func144 (by kernel_rfl) (H := (hint [(2, [.val 6 (.int .i64)])])) law144 (by kernel_rfl)
noncomputable def E131 : Env := { tt, eqs := [], cts := [ct143, ct125, ct144] }
theorem ok131 : EnvOk Tryz.prog E131 := ⟨ttOk, by kernel_rfl, rfl, mixOk⟩
theorem cs131 (w0 : World) (hJ : J w0) : EnvCts Tryz.prog E131 w0 w0.heap.size := by
  refine ⟨fun c hc => ?_, fun c hc => ?_⟩
  · rcases List.mem_cons.1 hc with rfl | hc
    · exact fun w hb => all143 w (J_below hJ hb)
    rcases List.mem_cons.1 hc with rfl | hc
    · exact fun w hb => all125 w (J_below hJ hb)
    rcases List.mem_cons.1 hc with rfl | hc
    · exact fun w hb => all144 w (J_below hJ hb)
    cases hc
  · cases hc
noncomputable def ct131 : Ct := { f := 131, ps := [.v true .ro ls122], rs := [(false, ls4)], shared := false, pre := fun (x : Fld) => pFieldOk x, F := fun (x : Fld) => mFieldOk x }
theorem law131 : ∀ x : Fld, pFieldOk x → s_impl_fieldOk x (fun r => r = mFieldOk x) := fun x h => impl_fieldOk_ok x h
theorem all131 (w : World) (hJ : J w) : CtAt Tryz.prog ct131 w :=
  ct_by ok131 (cs131 w hJ) Tryz.func131 (by kernel_rfl) (H := (hint [])) law131 (by kernel_rfl)
noncomputable def E130 : Env := { tt, eqs := [], cts := [ct131] }
theorem ok130 : EnvOk Tryz.prog E130 := ⟨ttOk, by kernel_rfl, rfl, mixOk⟩
theorem cs130 (w0 : World) (hJ : J w0) : EnvCts Tryz.prog E130 w0 w0.heap.size := by
  refine ⟨fun c hc => ?_, fun c hc => ?_⟩
  · rcases List.mem_cons.1 hc with rfl | hc
    · exact fun w hb => all131 w (J_below hJ hb)
    cases hc
  · cases hc
noncomputable def ct130 : Ct := { f := 130, ps := [.v true .ro ls122], rs := [(false, ls4)], shared := false, pre := fun (x : Fld) => pFieldsOk_1 x, F := fun (x : Fld) => mFieldsOk_1 x }
theorem law130 : ∀ x : Fld, pFieldsOk_1 x → s_impl_FieldsOk_1 x (fun r => r = mFieldsOk_1 x) := fun x h => impl_FieldsOk_1_ok x h
theorem all130 (w : World) (hJ : J w) : CtAt Tryz.prog ct130 w :=
  ct_by ok130 (cs130 w hJ) Tryz.func130 (by kernel_rfl) (H := (hint [])) law130 (by kernel_rfl)
noncomputable def E142_130 : Env := { tt, eqs := [], cts := [ct130] }
theorem ok142_130 : EnvOk Tryz.prog E142_130 := ⟨ttOk, by kernel_rfl, rfl, mixOk⟩
theorem cs142_130 (w0 : World) (hJ : J w0) : EnvCts Tryz.prog E142_130 w0 w0.heap.size := by
  refine ⟨fun c hc => ?_, fun c hc => ?_⟩
  · rcases List.mem_cons.1 hc with rfl | hc
    · exact fun w hb => all130 w (J_below hJ hb)
    cases hc
  · cases hc
noncomputable def ct142_130 : Ct := { f := 142, ps := [.v false .ro ls43, .c 130 []], rs := [(false, ls3)], shared := false, pre := fun (x : (List Fld) × Unit) => pIndexFunc_FieldsOk_1 x.1 x.2, F := fun (x : (List Fld) × Unit) => mIndexFunc_FieldsOk_1 x.1 x.2 }
theorem law142_130 : ∀ x : (List Fld) × Unit, pIndexFunc_FieldsOk_1 x.1 x.2 → s_IndexFunc_FieldsOk_1 x.1 x.2 (fun r => r = mIndexFunc_FieldsOk_1 x.1 x.2) := fun x h => IndexFunc_FieldsOk_1_ok x.1 x.2 h
theorem all142_130 (w : World) (hJ : J w) : CtAt Tryz.prog ct142_130 w :=
  ct_by ok142_130 (cs142_130 w hJ) Tryz.func142 (by kernel_rfl) (H := (hint [(2, [.val 8 (.int .i64)])])) law142_130 (by kernel_rfl)
noncomputable def E129_130 : Env := { tt, eqs := [], cts := [ct142_130] }
theorem ok129_130 : EnvOk Tryz.prog E129_130 := ⟨ttOk, by kernel_rfl, rfl, mixOk⟩
theorem cs129_130 (w0 : World) (hJ : J w0) : EnvCts Tryz.prog E129_130 w0 w0.heap.size := by
  refine ⟨fun c hc => ?_, fun c hc => ?_⟩
  · rcases List.mem_cons.1 hc with rfl | hc
    · exact fun w hb => all142_130 w (J_below hJ hb)
    cases hc
  · cases hc
noncomputable def ct129_130 : Ct := { f := 129, ps := [.v false .ro ls43, .c 130 []], rs := [(false, ls4)], shared := false, pre := fun (x : (List Fld) × Unit) => pContainsFunc_FieldsOk_1 x.1 x.2, F := fun (x : (List Fld) × Unit) => mContainsFunc_FieldsOk_1 x.1 x.2 }
theorem law129_130 : ∀ x : (List Fld) × Unit, pContainsFunc_FieldsOk_1 x.1 x.2 → s_ContainsFunc_FieldsOk_1 x.1 x.2 (fun r => r = mContainsFunc_FieldsOk_1 x.1 x.2) := fun x h => ContainsFunc_FieldsOk_1_ok x.1 x.2 h
theorem all129_130 (w : World) (hJ : J w) : CtAt Tryz.prog ct129_130 w :=
  ct_by ok129_130 (cs129_130 w hJ) Tryz.func129 (by kernel_rfl) (H := (hint [])) law129_130 (by kernel_rfl)
noncomputable def E120 : Env := { tt, eqs := [], cts := [ct129_130] }
theorem ok120 : EnvOk Tryz.prog E120 := ⟨ttOk, by kernel_rfl, rfl, mixOk⟩
theorem cs120 (w0 : World) (hJ : J w0) : EnvCts Tryz.prog E120 w0 w0.heap.size := by
  refine ⟨fun c hc => ?_, fun c hc => ?_⟩
  · rcases List.mem_cons.1 hc with rfl | hc
    · exact fun w hb => all129_130 w (J_below hJ hb)
    cases hc
  · cases hc
noncomputable def ct120 : Ct := { f := 120, ps := [.v false .ro ls43], rs := [(false, ls4)], shared := false, pre := fun (x : (List Fld)) => pFieldsOk x, F := fun (x : (List Fld)) => mFieldsOk x }
theorem law120 : ∀ x : (List Fld), pFieldsOk x → s_impl_FieldsOk x (fun r => r = mFieldsOk x) := fun x h => impl_FieldsOk_ok x h
theorem all120 (w : World) (hJ : J w) : CtAt Tryz.prog ct120 w :=
  ct_by ok120 (cs120 w hJ) Tryz.func120 (by kernel_rfl) (H := (hint [])) law120 (by kernel_rfl)
noncomputable def ct127 : Ct := joinCt 9 127
theorem all127 (w : World) (hJ : J w) : CtAt Tryz.prog ct127 w := join_ct ⟨_, Tryz.func127, by kernel_rfl, by kernel_rfl⟩ (fun a c sep => Tryz.strings_Join_none a c sep w) (fun bk o c xs sep h1 h2 h3 h4 h5 => Tryz.strings_Join bk o c xs sep w h1 h2 h3 h4 h5)
noncomputable def E117 : Env := { tt, eqs := [], cts := [ct127] }
theorem ok117 : EnvOk Tryz.prog E117 := ⟨ttOk, by kernel_rfl, rfl, mixOk⟩
theorem cs117 (w0 : World) (hJ : J w0) : EnvCts Tryz.prog E117 w0 w0.heap.size := by
  refine ⟨fun c hc => ?_, fun c hc => ?_⟩
  · rcases List.mem_cons.1 hc with rfl | hc
    · exact fun w hb => all127 w (J_below hJ hb)
    cases hc
  · cases hc
noncomputable def ct117 : Ct := { f := 117, ps := [.v false .ro ls43, .v false .ro ls9], rs := [(false, ls9), (false, ls4)], shared := false, pre := fun (x : (List Fld) × S) => pFieldGet x.1 x.2, F := fun (x : (List Fld) × S) => mFieldGet x.1 x.2 }
theorem law117 : ∀ x : (List Fld) × S, pFieldGet x.1 x.2 → s_impl_FieldGet x.1 x.2 (fun r => r = mFieldGet x.1 x.2) := fun x h => impl_FieldGet_ok x.1 x.2 h
theorem all117 (w : World) (hJ : J w) : CtAt Tryz.prog ct117 w :=
  ct_by ok117 (cs117 w hJ) Tryz.func117 (by kernel_rfl) (H := (hint [(3, [.reg 6 9 [.str] true, .val 12 (.int .i64)])])) law117 (by kernel_rfl)
noncomputable def E132 : Env := { tt, eqs := [], cts := [ct117] }
theorem ok132 : EnvOk Tryz.prog E132 := ⟨ttOk, by kernel_rfl, rfl, mixOk⟩
theorem cs132 (w0 : World) (hJ : J w0) : EnvCts Tryz.prog E132 w0 w0.heap.size := by
  refine ⟨fun c hc => ?_, fun c hc => ?_⟩
  · rcases List.mem_cons.1 hc with rfl | hc
    · exact fun w hb => all117 w (J_below hJ hb)
    cases hc
  · cases hc
noncomputable def ct132 : Ct := { f := 132, ps := [.v false .ro ls43, .v false .ro ls9], rs := [(false, ls4)], shared := false, pre := fun (x : (List Fld) × S) => pHasField x.1 x.2, F := fun (x : (List Fld) × S) => mHasField x.1 x.2 }
theorem law132 : ∀ x : (List Fld) × S, pHasField x.1 x.2 → s_impl_hasField x.1 x.2 (fun r => r = mHasField x.1 x.2) := fun x h => impl_hasField_ok x.1 x.2 h
theorem all132 (w : World) (hJ : J w) : CtAt Tryz.prog ct132 w :=
  ct_by ok132 (cs132 w hJ) Tryz.func132 (by kernel_rfl) (H := (hint [])) law132 (by kernel_rfl)
noncomputable def E121 : Env := { tt, eqs := [], cts := [ct132] }
theorem ok121 : EnvOk Tryz.prog E121 := ⟨ttOk, by kernel_rfl, rfl, mixOk⟩
theorem cs121 (w0 : World) (hJ : J w0) : EnvCts Tryz.prog E121 w0 w0.heap.size := by
  refine ⟨fun c hc => ?_, fun c hc => ?_⟩
  · rcases List.mem_cons.1 hc with rfl | hc
    · exact fun w hb => all132 w (J_below hJ hb)
    cases hc
  · cases hc
noncomputable def ct121 : Ct := { f := 121, ps := [.v false .ro ls43], rs := [(false, ls4)], shared := false, pre := fun (x : (List Fld)) => pBodyFields x, F := fun (x : (List Fld)) => mBodyFields x }
theorem law121 : ∀ x : (List Fld), pBodyFields x → s_impl_bodyFields x (fun r => r = mBodyFields x) := fun x h => impl_bodyFields_ok x h
theorem all121 (w : World) (hJ : J w) : CtAt Tryz.prog ct121 w :=
  ct_by ok121 (cs121 w hJ) Tryz.func121 (by kernel_rfl) (H := (hint [])) law121 (by kernel_rfl)
noncomputable def E110 : Env := { tt, eqs := [], cts := [ct120, ct121] }
theorem ok110 : EnvOk Tryz.prog E110 := ⟨ttOk, by kernel_rfl, rfl, mixOk⟩
theorem cs110 (w0 : World) (hJ : J w0) : EnvCts Tryz.prog E110 w0 w0.heap.size := by
  refine ⟨fun c hc => ?_, fun c hc => ?_⟩
  · rcases List.mem_cons.1 hc with rfl | hc
    · exact fun w hb => all120 w (J_below hJ hb)
    rcases List.mem_cons.1 hc with rfl | hc
    · exact fun w hb => all121 w (J_below hJ hb)
    cases hc
  · cases hc
noncomputable def ct110 : Ct := { f := 110, ps := [.v false .ro ls43], rs := [(false, ls4)], shared := false, pre := fun (x : (List Fld)) => pOwnFields x, F := fun (x : (List Fld)) => mOwnFields x }
theorem law110 : ∀ x : (List Fld), pOwnFields x → s_impl_ownFields x (fun r => r = mOwnFields x) := fun x h => impl_ownFields_ok x h
theorem all110 (w : World) (hJ : J w) : CtAt Tryz.prog ct110 w :=
  ct_by ok110 (cs110 w hJ) Tryz.func110 (by kernel_rfl) (H := (hint [])) law110 (by kernel_rfl)
noncomputable def E111 : Env := { tt, eqs := [], cts := [] }
theorem ok111 : EnvOk Tryz.prog E111 := ⟨ttOk, by kernel_rfl, rfl, mixOk⟩
theorem cs111 (w0 : World) (hJ : J w0) : EnvCts Tryz.prog E111 w0 w0.heap.size := by
  refine ⟨fun c hc => ?_, fun c hc => ?_⟩
  · cases hc
  · cases hc
noncomputable def ct111 : Ct := { f := 111, ps := [.v false .ro ls3], rs := [(false, ls4)], shared := false, pre := fun (x : Int) => pBodiless x, F := fun (x : Int) => mBodiless x }
theorem law111 : ∀ x : Int, pBodiless x → s_impl_bodiless x (fun r => r = mBodiless x) := fun x _ => impl_bodiless_ok x
theorem all111 (w : World) (hJ : J w) : CtAt Tryz.prog ct111 w :=
  ct_by ok111 (cs111 w hJ) Tryz.func111 (by kernel_rfl) (H := (hint [])) law111 (by kernel_rfl)
noncomputable def E102 : Env := { tt, eqs := [], cts := [ct36, ct110, ct111] }
theorem ok102 : EnvOk Tryz.prog E102 := ⟨ttOk, by kernel_rfl, rfl, mixOk⟩
theorem cs102 (w0 : World) (hJ : J w0) : EnvCts Tryz.prog E102 w0 w0.heap.size := by
  refine ⟨fun c hc => ?_, fun c hc => ?_⟩
  · rcases List.mem_cons.1 hc with rfl | hc
    · exact fun w hb => all36 w (J_below hJ hb)
    rcases List.mem_cons.1 hc with rfl | hc
    · exact fun w hb => all110 w (J_below hJ hb)
    rcases List.mem_cons.1 hc with rfl | hc
    · exact fun w hb => all111 w (J_below hJ hb)
    cases hc
  · cases hc
noncomputable def ct102 : Ct := { f := 102, ps := [.v true .ro ls45], rs := [(false, ls4)], shared := false, pre := fun (x : Rsp) => pResponseOk x, F := fun (x : Rsp) => mResponseOk x }
theorem law102 : ∀ x : Rsp, pResponseOk x → s_impl_ResponseOk x (fun r => r = mResponseOk x) := fun x h => impl_ResponseOk_ok x h
theorem all102 (w : World) (hJ : J w) : CtAt Tryz.prog ct102 w :=
  ct_by ok102 (cs102 w hJ) Tryz.func102 (by kernel_rfl) (H := (hint [])) law102 (by kernel_rfl)
noncomputable def E74 : Env := { tt, eqs := [], cts := [ct90, ct102, ct36] }
theorem ok74 : EnvOk Tryz.prog E74 := ⟨ttOk, by kernel_rfl, rfl, mixOk⟩
theorem cs74 (w0 : World) (hJ : J w0) : EnvCts Tryz.prog E74 w0 w0.heap.size := by
  refine ⟨fun c hc => ?_, fun c hc => ?_⟩
  · rcases List.mem_cons.1 hc with rfl | hc
    · exact fun w hb => all90 w (J_below hJ hb)
    rcases List.mem_cons.1 hc with rfl | hc
    · exact fun w hb => all102 w (J_below hJ hb)
    rcases List.mem_cons.1 hc with rfl | hc
    · exact fun w hb => all36 w (J_below hJ hb)
    cases hc
  · cases hc
noncomputable def ct74 : Ct := { f := 74, ps := [.v true .ro ls47], rs := [(false, ls4)], shared := false, pre := fun (x : Sto) => pStoredOk x, F := fun (x : Sto) => mStoredOk x }
theorem law74 : ∀ x : Sto, pStoredOk x → s_impl_StoredOk x (fun r => r = mStoredOk x) := fun x h => impl_StoredOk_ok x h
theorem all74 (w : World) (hJ : J w) : CtAt Tryz.prog ct74 w :=
  ct_by ok74 (cs74 w hJ) Tryz.func74 (by kernel_rfl) (H := (hint [])) law74 (by kernel_rfl)
noncomputable def E112 : Env := { tt, eqs := [122], cts := [] }
theorem ok112 : EnvOk Tryz.prog E112 := ⟨ttOk, by kernel_rfl, rfl, mixOk⟩
theorem cs112 (w0 : World) (hJ : J w0) : EnvCts Tryz.prog E112 w0 w0.heap.size := by
  refine ⟨fun c hc => ?_, fun c hc => ?_⟩
  · cases hc
  · cases hc
noncomputable def ct112 : Ct := { f := 112, ps := [.v false .ro ls43, .v false .ro ls43], rs := [(false, ls4)], shared := false, pre := fun (x : (List Fld) × (List Fld)) => pEqual_Field x.1 x.2, F := fun (x : (List Fld) × (List Fld)) => mEqual_Field x.1 x.2 }
theorem law112 : ∀ x : (List Fld) × (List Fld), pEqual_Field x.1 x.2 → s_slices_Equal_Field x.1 x.2 (fun r => r = mEqual_Field x.1 x.2) := fun x h => slices_Equal_Field_ok x.1 x.2 h
theorem all112 (w : World) (hJ : J w) : CtAt Tryz.prog ct112 w :=
  ct_by ok112 (cs112 w hJ) Tryz.func112 (by kernel_rfl) (H := (hint [(4, [.val 13 (.int .i64)])])) law112 (by kernel_rfl)
noncomputable def E104 : Env := { tt, eqs := [], cts := [ct112] }
theorem ok104 : EnvOk Tryz.prog E104 := ⟨ttOk, by kernel_rfl, rfl, mixOk⟩
theorem cs104 (w0 : World) (hJ : J w0) : EnvCts Tryz.prog E104 w0 w0.heap.size := by
  refine ⟨fun c hc => ?_, fun c hc => ?_⟩
  · rcases List.mem_cons.1 hc with rfl | hc
    · exact fun w hb => all112 w (J_below hJ hb)
    cases hc
  · cases hc
noncomputable def ct104 : Ct := { f := 104, ps := [.v false .ro ls43, .v false .ro ls43], rs := [(false, ls4)], shared := false, pre := fun (x : (List Fld) × (List Fld)) => pSameFields x.1 x.2, F := fun (x : (List Fld) × (List Fld)) => mSameFields x.1 x.2 }
theorem law104 : ∀ x : (List Fld) × (List Fld), pSameFields x.1 x.2 → s_impl_SameFields x.1 x.2 (fun r => r = mSameFields x.1 x.2) := fun x h => impl_SameFields_ok x.1 x.2 h
theorem all104 (w : World) (hJ : J w) : CtAt Tryz.prog ct104 w :=
  ct_by ok104 (cs104 w hJ) Tryz.func104 (by kernel_rfl) (H := (hint [])) law104 (by kernel_rfl)
noncomputable def E77 : Env := { tt, eqs := [], cts := [ct104] }
theorem ok77 : EnvOk Tryz.prog E77 := ⟨ttOk, by kernel_rfl, rfl, mixOk⟩
theorem cs77 (w0 : World) (hJ : J w0) : EnvCts Tryz.prog E77 w0 w0.heap.size := by
  refine ⟨fun c hc => ?_, fun c hc => ?_⟩
  · rcases List.mem_cons.1 hc with rfl | hc
    · exact fun w hb => all104 w (J_below hJ hb)
    cases hc
  · cases hc
noncomputable def ct77 : Ct := { f := 77, ps := [.v true .ro ls47, .v true .ro ls47], rs := [(false, ls4)], shared := false, pre := fun (x : Sto × Sto) => pStandAlike x.1 x.2, F := fun (x : Sto × Sto) => mStandAlike x.1 x.2 }
theorem law77 : ∀ x : Sto × Sto, pStandAlike x.1 x.2 → s_impl_standAlike x.1 x.2 (fun r => r = mStandAlike x.1 x.2) := fun x h => impl_standAlike_ok x.1 x.2 h
theorem all77 (w : World) (hJ : J w) : CtAt Tryz.prog ct77 w :=
  ct_by ok77 (cs77 w hJ) Tryz.func77 (by kernel_rfl) (H := (hint [])) law77 (by kernel_rfl)
noncomputable def E76 : Env := { tt, eqs := [], cts := [ct77] }
theorem ok76 : EnvOk Tryz.prog E76 := ⟨ttOk, by kernel_rfl, rfl, mixOk⟩
theorem cs76 (w0 : World) (hJ : J w0) : EnvCts Tryz.prog E76 w0 w0.heap.size := by
  refine ⟨fun c hc => ?_, fun c hc => ?_⟩
  · rcases List.mem_cons.1 hc with rfl | hc
    · exact fun w hb => all77 w (J_below hJ hb)
    cases hc
  · cases hc
noncomputable def ct76 : Ct := { f := 76, ps := [.v true .ro ls71, .p false ls71], rs := [(false, ls4)], shared := false, pre := fun (x : Slt × Slt) => pShardOk_1 x.1 x.2, F := fun (x : Slt × Slt) => mShardOk_1 x.1 x.2 }
theorem law76 : ∀ x : Slt × Slt, pShardOk_1 x.1 x.2 → s_impl_ShardOk_1 x.1 x.2 (fun r => r = mShardOk_1 x.1 x.2) := fun x h => impl_ShardOk_1_ok x.1 x.2 h
theorem all76 (w : World) (hJ : J w) : CtAt Tryz.prog ct76 w :=
  ct_by ok76 (cs76 w hJ) Tryz.func76 (by kernel_rfl) (H := (hint [])) law76 (by kernel_rfl)
noncomputable def E103_76 : Env := { tt, eqs := [], cts := [ct76] }
theorem ok103_76 : EnvOk Tryz.prog E103_76 := ⟨ttOk, by kernel_rfl, rfl, mixOk⟩
theorem cs103_76 (w0 : World) (hJ : J w0) : EnvCts Tryz.prog E103_76 w0 w0.heap.size := by
  refine ⟨fun c hc => ?_, fun c hc => ?_⟩
  · rcases List.mem_cons.1 hc with rfl | hc
    · exact fun w hb => all76 w (J_below hJ hb)
    cases hc
  · cases hc
noncomputable def ct103_76 : Ct := { f := 103, ps := [.v false .ro ls26, .c 76 [ls71]], rs := [(false, ls3)], shared := false, pre := fun (x : (List Slt) × Slt) => pIndexFunc_ShardOk_1 x.1 x.2, F := fun (x : (List Slt) × Slt) => mIndexFunc_ShardOk_1 x.1 x.2 }
theorem law103_76 : ∀ x : (List Slt) × Slt, pIndexFunc_ShardOk_1 x.1 x.2 → s_IndexFunc_ShardOk_1 x.1 x.2 (fun r => r = mIndexFunc_ShardOk_1 x.1 x.2) := fun x h => IndexFunc_ShardOk_1_ok x.1 x.2 h
theorem all103_76 (w : World) (hJ : J w) : CtAt Tryz.prog ct103_76 w :=
  ct_by ok103_76 (cs103_76 w hJ) Tryz.func103 (by kernel_rfl) (H := (hint [(2, [.val 8 (.int .i64)])])) law103_76 (by kernel_rfl)
noncomputable def E75_76 : Env := { tt, eqs := [], cts := [ct103_76] }
theorem ok75_76 : EnvOk Tryz.prog E75_76 := ⟨ttOk, by kernel_rfl, rfl, mixOk⟩
theorem cs75_76 (w0 : World) (hJ : J w0) : EnvCts Tryz.prog E75_76 w0 w0.heap.size := by
  refine ⟨fun c hc => ?_, fun c hc => ?_⟩
  · rcases List.mem_cons.1 hc with rfl | hc
    · exact fun w hb => all103_76 w (J_below hJ hb)
    cases hc
  · cases hc
noncomputable def ct75_76 : Ct := { f := 75, ps := [.v false .ro ls26, .c 76 [ls71]], rs := [(false, ls4)], shared := false, pre := fun (x : (List Slt) × Slt) => pContainsFunc_ShardOk_1 x.1 x.2, F := fun (x : (List Slt) × Slt) => mContainsFunc_ShardOk_1 x.1 x.2 }
theorem law75_76 : ∀ x : (List Slt) × Slt, pContainsFunc_ShardOk_1 x.1 x.2 → s_ContainsFunc_ShardOk_1 x.1 x.2 (fun r => r = mContainsFunc_ShardOk_1 x.1 x.2) := fun x h => ContainsFunc_ShardOk_1_ok x.1 x.2 h
theorem all75_76 (w : World) (hJ : J w) : CtAt Tryz.prog ct75_76 w :=
  ct_by ok75_76 (cs75_76 w hJ) Tryz.func75 (by kernel_rfl) (H := (hint [])) law75_76 (by kernel_rfl)
noncomputable def E78 : Env := { tt, eqs := [], cts := [] }
theorem ok78 : EnvOk Tryz.prog E78 := ⟨ttOk, by kernel_rfl, rfl, mixOk⟩
theorem cs78 (w0 : World) (hJ : J w0) : EnvCts Tryz.prog E78 w0 w0.heap.size := by
  refine ⟨fun c hc => ?_, fun c hc => ?_⟩
  · cases hc
  · cases hc
noncomputable def ct78 : Ct := { f := 78, ps := [.v false .ro ls26], rs := [(false, ls3)], shared := false, pre := fun (x : (List Slt)) => pBodies x, F := fun (x : (List Slt)) => mBodies x }
theorem law78 : ∀ x : (List Slt), pBodies x → s_impl_bodies x (fun r => r = mBodies x) := fun x h => impl_bodies_ok x h
theorem all78 (w : World) (hJ : J w) : CtAt Tryz.prog ct78 w :=
  ct_by ok78 (cs78 w hJ) Tryz.func78 (by kernel_rfl) (H := (hint [(3, [.val 3 (.int .i64), .val 8 (.int .i64)])])) law78 (by kernel_rfl)
noncomputable def E35 : Env := { tt, eqs := [], cts := [ct73, ct36, ct74, ct75_76, ct78] }
theorem ok35 : EnvOk Tryz.prog E35 := ⟨ttOk, by kernel_rfl, rfl, mixOk⟩
theorem cs35 (w0 : World) (hJ : J w0) : EnvCts Tryz.prog E35 w0 w0.heap.size := by
  refine ⟨fun c hc => ?_, fun c hc => ?_⟩
  · rcases List.mem_cons.1 hc with rfl | hc
    · exact fun w hb => all73 w (J_below hJ hb)
    rcases List.mem_cons.1 hc with rfl | hc
    · exact fun w hb => all36 w (J_below hJ hb)
    rcases List.mem_cons.1 hc with rfl | hc
    · exact fun w hb => all74 w (J_below hJ hb)
    rcases List.mem_cons.1 hc with rfl | hc
    · exact fun w hb => all75_76 w (J_below hJ hb)
    rcases List.mem_cons.1 hc with rfl | hc
    · exact fun w hb => all78 w (J_below hJ hb)
    cases hc
  · cases hc
noncomputable def ct35 : Ct := { f := 35, ps := [.v true .ro ls28], rs := [(false, ls4)], shared := false, pre := fun (x : Shd) => pShardOk x, F := fun (x : Shd) => mShardOk x }
theorem law35 : ∀ x : Shd, pShardOk x → s_impl_ShardOk x (fun r => r = mShardOk x) := fun x h => impl_ShardOk_ok x h
theorem all35 (w : World) (hJ : J w) : CtAt Tryz.prog ct35 w :=
  ct_by ok35 (cs35 w hJ) Tryz.func35 (by kernel_rfl) (H := (hint [(4, [.val 37 (.int .i64)])])) law35 (by kernel_rfl)
noncomputable def E91 : Env := { tt, eqs := [], cts := [] }
theorem ok91 : EnvOk Tryz.prog E91 := ⟨ttOk, by kernel_rfl, rfl, mixOk⟩
theorem cs91 (w0 : World) (hJ : J w0) : EnvCts Tryz.prog E91 w0 w0.heap.size := by
  refine ⟨fun c hc => ?_, fun c hc => ?_⟩
  · cases hc
  · cases hc
noncomputable def ct91 : Ct := { f := 91, ps := [.v false .ro ls9], rs := [(false, ls3)], shared := false, pre := fun (x : S) => pFnv x, F := fun (x : S) => mFnv x }
theorem law91 : ∀ x : S, pFnv x → s_impl_Fnv x (fun r => r = mFnv x) := fun x h => impl_Fnv_ok x h
theorem all91 (w : World) (hJ : J w) : CtAt Tryz.prog ct91 w :=
  ct_by ok91 (cs91 w hJ) Tryz.func91 (by kernel_rfl) (H := (hint [(3, [.val 3 (.int .i64), .val 7 (.int .i64)])])) law91 (by kernel_rfl)
noncomputable def E51 : Env := { tt, eqs := [], cts := [ct91] }
theorem ok51 : EnvOk Tryz.prog E51 := ⟨ttOk, by kernel_rfl, rfl, mixOk⟩
theorem cs51 (w0 : World) (hJ : J w0) : EnvCts Tryz.prog E51 w0 w0.heap.size := by
  refine ⟨fun c hc => ?_, fun c hc => ?_⟩
  · rcases List.mem_cons.1 hc with rfl | hc
    · exact fun w hb => all91 w (J_below hJ hb)
    cases hc
  · cases hc
noncomputable def ct51 : Ct := { f := 51, ps := [.v true .ro ls53, .v false .ro ls9], rs := [(false, ls3)], shared := false, pre := fun (x : Cch × S) => pShardOf x.1 x.2, F := fun (x : Cch × S) => mShardOf x.1 x.2 }
theorem law51 : ∀ x : Cch × S, pShardOf x.1 x.2 → s_impl_ShardOf x.1 x.2 (fun r => r = mShardOf x.1 x.2) := fun x h => impl_ShardOf_ok x.1 x.2 h
theorem all51 (w : World) (hJ : J w) : CtAt Tryz.prog ct51 w :=
  ct_by ok51 (cs51 w hJ) Tryz.func51 (by kernel_rfl) (H := (hint [])) law51 (by kernel_rfl)
noncomputable def E89 : Env := { tt, eqs := [], cts := [ct51] }
theorem ok89 : EnvOk Tryz.prog E89 := ⟨ttOk, by kernel_rfl, rfl, mixOk⟩
theorem cs89 (w0 : World) (hJ : J w0) : EnvCts Tryz.prog E89 w0 w0.heap.size := by
  refine ⟨fun c hc => ?_, fun c hc => ?_⟩
  · rcases List.mem_cons.1 hc with rfl | hc
    · exact fun w hb => all51 w (J_below hJ hb)
    cases hc
  · cases hc
noncomputable def ct89 : Ct := { f := 89, ps := [.v true .ro ls71, .p false ls53, .p false ls3], rs := [(false, ls4)], shared := false, pre := fun (x : Slt × Cch × Int) => pCacheOk_1 x.1 x.2.1 x.2.2, F := fun (x : Slt × Cch × Int) => mCacheOk_1 x.1 x.2.1 x.2.2 }
theorem law89 : ∀ x : Slt × Cch × Int, pCacheOk_1 x.1 x.2.1 x.2.2 → s_impl_CacheOk_1 x.1 x.2.1 x.2.2 (fun r => r = mCacheOk_1 x.1 x.2.1 x.2.2) := fun x h => impl_CacheOk_1_ok x.1 x.2.1 x.2.2 h
theorem all89 (w : World) (hJ : J w) : CtAt Tryz.prog ct89 w :=
  ct_by ok89 (cs89 w hJ) Tryz.func89 (by kernel_rfl) (H := (hint [])) law89 (by kernel_rfl)
noncomputable def E103_89 : Env := { tt, eqs := [], cts := [ct89] }
theorem ok103_89 : EnvOk Tryz.prog E103_89 := ⟨ttOk, by kernel_rfl, rfl, mixOk⟩
theorem cs103_89 (w0 : World) (hJ : J w0) : EnvCts Tryz.prog E103_89 w0 w0.heap.size := by
  refine ⟨fun c hc => ?_, fun c hc => ?_⟩
  · rcases List.mem_cons.1 hc with rfl | hc
    · exact fun w hb => all89 w (J_below hJ hb)
    cases hc
  · cases hc
noncomputable def ct103_89 : Ct := { f := 103, ps := [.v false .ro ls26, .c 89 [ls53, ls3]], rs := [(false, ls3)], shared := false, pre := fun (x : (List Slt) × (Cch × Int)) => pIndexFunc_CacheOk_1 x.1 x.2, F := fun (x : (List Slt) × (Cch × Int)) => mIndexFunc_CacheOk_1 x.1 x.2 }
theorem law103_89 : ∀ x : (List Slt) × (Cch × Int), pIndexFunc_CacheOk_1 x.1 x.2 → s_IndexFunc_CacheOk_1 x.1 x.2 (fun r => r = mIndexFunc_CacheOk_1 x.1 x.2) := fun x h => IndexFunc_CacheOk_1_ok x.1 x.2 h
theorem all103_89 (w : World) (hJ : J w) : CtAt Tryz.prog ct103_89 w :=
  ct_by ok103_89 (cs103_89 w hJ) Tryz.func103 (by kernel_rfl) (H := (hint [(2, [.val 8 (.int .i64)])])) law103_89 (by kernel_rfl)
noncomputable def E75_89 : Env := { tt, eqs := [], cts := [ct103_89] }
theorem ok75_89 : EnvOk Tryz.prog E75_89 := ⟨ttOk, by kernel_rfl, rfl, mixOk⟩
theorem cs75_89 (w0 : World) (hJ : J w0) : EnvCts Tryz.prog E75_89 w0 w0.heap.size := by
  refine ⟨fun c hc => ?_, fun c hc => ?_⟩
  · rcases List.mem_cons.1 hc with rfl | hc
    · exact fun w hb => all103_89 w (J_below hJ hb)
    cases hc
  · cases hc
noncomputable def ct75_89 : Ct := { f := 75, ps := [.v false .ro ls26, .c 89 [ls53, ls3]], rs := [(false, ls4)], shared := false, pre := fun (x : (List Slt) × (Cch × Int)) => pContainsFunc_CacheOk_1 x.1 x.2, F := fun (x : (List Slt) × (Cch × Int)) => mContainsFunc_CacheOk_1 x.1 x.2 }
theorem law75_89 : ∀ x : (List Slt) × (Cch × Int), pContainsFunc_CacheOk_1 x.1 x.2 → s_ContainsFunc_CacheOk_1 x.1 x.2 (fun r => r = mContainsFunc_CacheOk_1 x.1 x.2) := fun x h => ContainsFunc_CacheOk_1_ok x.1 x.2 h
theorem all75_89 (w : World) (hJ : J w) : CtAt Tryz.prog ct75_89 w :=
  ct_by ok75_89 (cs75_89 w hJ) Tryz.func75 (by kernel_rfl) (H := (hint [])) law75_89 (by kernel_rfl)
noncomputable def E50 : Env := { tt, eqs := [], cts := [ct36, ct35, ct75_89, ct90] }
theorem ok50 : EnvOk Tryz.prog E50 := ⟨ttOk, by kernel_rfl, rfl, mixOk⟩
theorem cs50 (w0 : World) (hJ : J w0) : EnvCts Tryz.prog E50 w0 w0.heap.size := by
  refine ⟨fun c hc => ?_, fun c hc => ?_⟩
  · rcases List.mem_cons.1 hc with rfl | hc
    · exact fun w hb => all36 w (J_below hJ hb)
    rcases List.mem_cons.1 hc with rfl | hc
    · exact fun w hb => all35 w (J_below hJ hb)
    rcases List.mem_cons.1 hc with rfl | hc
    · exact fun w hb => all75_89 w (J_below hJ hb)
    rcases List.mem_cons.1 hc with rfl | hc
    · exact fun w hb => all90 w (J_below hJ hb)
    cases hc
  · cases hc
noncomputable def ct50 : Ct := { f := 50, ps := [.v true .ro ls53], rs := [(false, ls4)], shared := false, pre := fun (x : Cch) => pCacheOk x, F := fun (x : Cch) => mCacheOk x }
theorem law50 : ∀ x : Cch, pCacheOk x → s_impl_CacheOk x (fun r => r = mCacheOk x) := fun x h => impl_CacheOk_ok x h
theorem all50 (w : World) (hJ : J w) : CtAt Tryz.prog ct50 w :=
  ct_by ok50 (cs50 w hJ) Tryz.func50 (by kernel_rfl) (H := (hint [(4, [.val 15 (.int .i64)]), (10, [.val 33 (.int .i64)])])) law50 (by kernel_rfl)
noncomputable def E134 : Env := { tt, eqs := [], cts := [] }
theorem ok134 : EnvOk Tryz.prog E134 := ⟨ttOk, by kernel_rfl, rfl, mixOk⟩
theorem cs134 (w0 : World) (hJ : J w0) : EnvCts Tryz.prog E134 w0 w0.heap.size := by
  refine ⟨fun c hc => ?_, fun c hc => ?_⟩
  · cases hc
  · cases hc
noncomputable def ct134 : Ct := { f := 134, ps := [.v false .ro ls9], rs := [(false, ls149)], shared := false, pre := fun (x : S) => pCommas x, F := fun (x : S) => mCommas x }
theorem law134 : ∀ x : S, pCommas x → s_impl_commas x (fun r => r = mCommas x) := fun x h => impl_commas_ok x h
theorem all134 (w : World) (hJ : J w) : CtAt Tryz.prog ct134 w :=
  ct_by ok134 (cs134 w hJ) Tryz.func134 (by kernel_rfl) (H := (hint [(4, [.reg 3 3 [.int .i64] true, .val 4 (.bool), .val 5 (.int .i64)])])) law134 (by kernel_rfl)
noncomputable def E124 : Env := { tt, eqs := [], cts := [ct134, ct135] }
theorem ok124 : EnvOk Tryz.prog E124 := ⟨ttOk, by kernel_rfl, rfl, mixOk⟩
theorem cs124 (w0 : World) (hJ : J w0) : EnvCts Tryz.prog E124 w0 w0.heap.size := by
  refine ⟨fun c hc => ?_, fun c hc => ?_⟩
  · rcases List.mem_cons.1 hc with rfl | hc
    · exact fun w hb => all134 w (J_below hJ hb)
    rcases List.mem_cons.1 hc with rfl | hc
    · exact fun w hb => all135 w (J_below hJ hb)
    cases hc
  · cases hc
noncomputable def ct124 : Ct := { f := 124, ps := [.v false .ro ls9], rs := [(false, ls138)], shared := false, pre := fun (x : S) => pSplitList x, F := fun (x : S) => mSplitList x }
theorem law124 : ∀ x : S, pSplitList x → s_impl_SplitList x (fun r => r = mSplitList x) := fun x h => impl_SplitList_ok x h
theorem all124 (w : World) (hJ : J w) : CtAt Tryz.prog ct124 w :=
  ct_by ok124 (cs124 w hJ) Tryz.func124 (by kernel_rfl) (H := (hint [(4, [.reg 3 9 [.str] true, .val 4 (.int .i64), .val 16 (.int .i64)])])) law124 (by kernel_rfl)
noncomputable def E136 : Env := { tt, eqs := [], cts := [] }
theorem ok136 : EnvOk Tryz.prog E136 := ⟨ttOk, by kernel_rfl, rfl, mixOk⟩
theorem cs136 (w0 : World) (hJ : J w0) : EnvCts Tryz.prog E136 w0 w0.heap.size := by
  refine ⟨fun c hc => ?_, fun c hc => ?_⟩
  · cases hc
  · cases hc
noncomputable def ct136 : Ct := { f := 136, ps := [.v false .ro ls138, .v false .ro ls9], rs := [(false, ls3)], shared := false, pre := fun (x : (List S) × S) => pIndex_string x.1 x.2, F := fun (x : (List S) × S) => mIndex_string x.1 x.2 }
theorem law136 : ∀ x : (List S) × S, pIndex_string x.1 x.2 → s_slices_Index_string x.1 x.2 (fun r => r = mIndex_string x.1 x.2) := fun x h => slices_Index_string_ok x.1 x.2 h
theorem all136 (w : World) (hJ : J w) : CtAt Tryz.prog ct136 w :=
  ct_by ok136 (cs136 w hJ) Tryz.func136 (by kernel_rfl) (H := (hint [(2, [.val 8 (.int .i64)])])) law136 (by kernel_rfl)
noncomputable def E126 : Env := { tt, eqs := [], cts := [ct136] }
theorem ok126 : EnvOk Tryz.prog E126 := ⟨ttOk, by kernel_rfl, rfl, mixOk⟩
theorem cs126 (w0 : World) (hJ : J w0) : EnvCts Tryz.prog E126 w0 w0.heap.size := by
  refine ⟨fun c hc => ?_, fun c hc => ?_⟩
  · rcases List.mem_cons.1 hc with rfl | hc
    · exact fun w hb => all136 w (J_below hJ hb)
    cases hc
  · cases hc
noncomputable def ct126 : Ct := { f := 126, ps := [.v false .ro ls138, .v false .ro ls9], rs := [(false, ls4)], shared := false, pre := fun (x : (List S) × S) => pContains_string x.1 x.2, F := fun (x : (List S) × S) => mContains_string x.1 x.2 }
theorem law126 : ∀ x : (List S) × S, pContains_string x.1 x.2 → s_slices_Contains_string x.1 x.2 (fun r => r = mContains_string x.1 x.2) := fun x h => slices_Contains_string_ok x.1 x.2 h
theorem all126 (w : World) (hJ : J w) : CtAt Tryz.prog ct126 w :=
  ct_by ok126 (cs126 w hJ) Tryz.func126 (by kernel_rfl) (H := (hint [])) law126 (by kernel_rfl)
noncomputable def E116 : Env := { tt, eqs := [], cts := [ct117, ct124, ct125, ct126] }
theorem ok116 : EnvOk Tryz.prog E116 := ⟨ttOk, by kernel_rfl, rfl, mixOk⟩
theorem cs116 (w0 : World) (hJ : J w0) : EnvCts Tryz.prog E116 w0 w0.heap.size := by
  refine ⟨fun c hc => ?_, fun c hc => ?_⟩
  · rcases List.mem_cons.1 hc with rfl | hc
    · exact fun w hb => all117 w (J_below hJ hb)
    rcases List.mem_cons.1 hc with rfl | hc
    · exact fun w hb => all124 w (J_below hJ hb)
    rcases List.mem_cons.1 hc with rfl | hc
    · exact fun w hb => all125 w (J_below hJ hb)
    rcases List.mem_cons.1 hc with rfl | hc
    · exact fun w hb => all126 w (J_below hJ hb)
    cases hc
  · cases hc
noncomputable def ct116 : Ct := { f := 116, ps := [.v true .ro ls45], rs := [(false, ls138)], shared := false, pre := fun (x : Rsp) => pVaryNames x, F := fun (x : Rsp) => mVaryNames x }
theorem law116 : ∀ x : Rsp, pVaryNames x → s_impl_VaryNames x (fun r => r = mVaryNames x) := fun x h => impl_VaryNames_ok x h
theorem all116 (w : World) (hJ : J w) : CtAt Tryz.prog ct116 w :=
  ct_by ok116 (cs116 w hJ) Tryz.func116 (by kernel_rfl) (H := (hint [(4, [.reg 5 9 [.str] true, .val 19 (.int .i64)])])) law116 (by kernel_rfl)
noncomputable def E118 : Env := { tt, eqs := [], cts := [ct124, ct127] }
theorem ok118 : EnvOk Tryz.prog E118 := ⟨ttOk, by kernel_rfl, rfl, mixOk⟩
theorem cs118 (w0 : World) (hJ : J w0) : EnvCts Tryz.prog E118 w0 w0.heap.size := by
  refine ⟨fun c hc => ?_, fun c hc => ?_⟩
  · rcases List.mem_cons.1 hc with rfl | hc
    · exact fun w hb => all124 w (J_below hJ hb)
    rcases List.mem_cons.1 hc with rfl | hc
    · exact fun w hb => all127 w (J_below hJ hb)
    cases hc
  · cases hc
noncomputable def ct118 : Ct := { f := 118, ps := [.v false .ro ls9], rs := [(false, ls9)], shared := false, pre := fun (x : S) => pNormal x, F := fun (x : S) => mNormal x }
theorem law118 : ∀ x : S, pNormal x → s_impl_Normal x (fun r => r = mNormal x) := fun x h => impl_Normal_ok x h
theorem all118 (w : World) (hJ : J w) : CtAt Tryz.prog ct118 w :=
  ct_by ok118 (cs118 w hJ) Tryz.func118 (by kernel_rfl) (H := (hint [])) law118 (by kernel_rfl)
noncomputable def E106 : Env := { tt, eqs := [], cts := [ct116, ct117, ct118] }
theorem ok106 : EnvOk Tryz.prog E106 := ⟨ttOk, by kernel_rfl, rfl, mixOk⟩
theorem cs106 (w0 : World) (hJ : J w0) : EnvCts Tryz.prog E106 w0 w0.heap.size := by
  refine ⟨fun c hc => ?_, fun c hc => ?_⟩
  · rcases List.mem_cons.1 hc with rfl | hc
    · exact fun w hb => all116 w (J_below hJ hb)
    rcases List.mem_cons.1 hc with rfl | hc
    · exact fun w hb => all117 w (J_below hJ hb)
    rcases List.mem_cons.1 hc with rfl | hc
    · exact fun w hb => all118 w (J_below hJ hb)
    cases hc
  · cases hc
noncomputable def ct106 : Ct := { f := 106, ps := [.v true .ro ls56, .v true .ro ls45], rs := [(false, ls43)], shared := false, pre := fun (x : Req × Rsp) => pPicked x.1 x.2, F := fun (x : Req × Rsp) => mPicked x.1 x.2 }
theorem law106 : ∀ x : Req × Rsp, pPicked x.1 x.2 → s_impl_Picked x.1 x.2 (fun r => r = mPicked x.1 x.2) := fun x h => impl_Picked_ok x.1 x.2 h
theorem all106 (w : World) (hJ : J w) : CtAt Tryz.prog ct106 w :=
  ct_by ok106 (cs106 w hJ) Tryz.func106 (by kernel_rfl) (H := (hint [(3, [.reg 5 122 [.str, .str] true, .val 14 (.int .i64)])])) law106 (by kernel_rfl)
noncomputable def E92 : Env := { tt, eqs := [], cts := [ct106, ct104] }
theorem ok92 : EnvOk Tryz.prog E92 := ⟨ttOk, by kernel_rfl, rfl, mixOk⟩
theorem cs92 (w0 : World) (hJ : J w0) : EnvCts Tryz.prog E92 w0 w0.heap.size := by
  refine ⟨fun c hc => ?_, fun c hc => ?_⟩
  · rcases List.mem_cons.1 hc with rfl | hc
    · exact fun w hb => all106 w (J_below hJ hb)
    rcases List.mem_cons.1 hc with rfl | hc
    · exact fun w hb => all104 w (J_below hJ hb)
    cases hc
  · cases hc
noncomputable def ct92 : Ct := { f := 92, ps := [.v true .ro ls56, .v true .ro ls45, .v false .ro ls43], rs := [(false, ls4)], shared := false, pre := fun (x : Req × Rsp × (List Fld)) => pVaryFits x.1 x.2.1 x.2.2, F := fun (x : Req × Rsp × (List Fld)) => mVaryFits x.1 x.2.1 x.2.2 }
theorem law92 : ∀ x : Req × Rsp × (List Fld), pVaryFits x.1 x.2.1 x.2.2 → s_impl_VaryFits x.1 x.2.1 x.2.2 (fun r => r = mVaryFits x.1 x.2.1 x.2.2) := fun x h => impl_VaryFits_ok x.1 x.2.1 x.2.2 h
theorem all92 (w : World) (hJ : J w) : CtAt Tryz.prog ct92 w :=
  ct_by ok92 (cs92 w hJ) Tryz.func92 (by kernel_rfl) (H := (hint [])) law92 (by kernel_rfl)
noncomputable def E52 : Env := { tt, eqs := [], cts := [ct35, ct92] }
theorem ok52 : EnvOk Tryz.prog E52 := ⟨ttOk, by kernel_rfl, rfl, mixOk⟩
theorem cs52 (w0 : World) (hJ : J w0) : EnvCts Tryz.prog E52 w0 w0.heap.size := by
  refine ⟨fun c hc => ?_, fun c hc => ?_⟩
  · rcases List.mem_cons.1 hc with rfl | hc
    · exact fun w hb => all35 w (J_below hJ hb)
    rcases List.mem_cons.1 hc with rfl | hc
    · exact fun w hb => all92 w (J_below hJ hb)
    cases hc
  · cases hc
noncomputable def ct52 : Ct := { f := 52, ps := [.v true .ro ls28, .v true .ro ls56], rs := [(false, ls3)], shared := false, pre := fun (x : Shd × Req) => pShardFind x.1 x.2, F := fun (x : Shd × Req) => mShardFind x.1 x.2 }
theorem law52 : ∀ x : Shd × Req, pShardFind x.1 x.2 → s_impl_ShardFind x.1 x.2 (fun r => r = mShardFind x.1 x.2) := fun x h => impl_ShardFind_ok x.1 x.2 h
theorem all52 (w : World) (hJ : J w) : CtAt Tryz.prog ct52 w :=
  ct_by ok52 (cs52 w hJ) Tryz.func52 (by kernel_rfl) (H := (hint [(5, [.val 5 (.int .i64), .val 19 (.int .i64)])])) law52 (by kernel_rfl)
noncomputable def E93 : Env := { tt, eqs := [], cts := [] }
theorem ok93 : EnvOk Tryz.prog E93 := ⟨ttOk, by kernel_rfl, rfl, mixOk⟩
theorem cs93 (w0 : World) (hJ : J w0) : EnvCts Tryz.prog E93 w0 w0.heap.size := by
  refine ⟨fun c hc => ?_, fun c hc => ?_⟩
  · cases hc
  · cases hc
noncomputable def ct93 : Ct := { f := 93, ps := [.v false .ro ls43], rs := [(false, ls43)], shared := false, pre := fun (x : (List Fld)) => pClone_Field x, F := fun (x : (List Fld)) => mClone_Field x }
theorem law93 : ∀ x : (List Fld), pClone_Field x → s_slices_Clone_Field x (fun r => r = mClone_Field x) := fun x h => slices_Clone_Field_ok x h
theorem all93 (w : World) (hJ : J w) : CtAt Tryz.prog ct93 w :=
  ct_by ok93 (cs93 w hJ) Tryz.func93 (by kernel_rfl) (H := (hint [])) law93 (by kernel_rfl)
noncomputable def E94 : Env := { tt, eqs := [], cts := [ct93] }
theorem ok94 : EnvOk Tryz.prog E94 := ⟨ttOk, by kernel_rfl, rfl, mixOk⟩
theorem cs94 (w0 : World) (hJ : J w0) : EnvCts Tryz.prog E94 w0 w0.heap.size := by
  refine ⟨fun c hc => ?_, fun c hc => ?_⟩
  · rcases List.mem_cons.1 hc with rfl | hc
    · exact fun w hb => all93 w (J_below hJ hb)
    cases hc
  · cases hc
noncomputable def ct94 : Ct := { f := 94, ps := [.v true .ro ls45], rs := [(true, ls45)], shared := false, pre := fun (x : Rsp) => pCloneResponse x, F := fun (x : Rsp) => mCloneResponse x }
theorem law94 : ∀ x : Rsp, pCloneResponse x → s_impl_cloneResponse x (fun r => r = mCloneResponse x) := fun x h => impl_cloneResponse_ok x h
theorem all94 (w : World) (hJ : J w) : CtAt Tryz.prog ct94 w :=
  ct_by ok94 (cs94 w hJ) Tryz.func94 (by kernel_rfl) (H := (hint [])) law94 (by kernel_rfl)
noncomputable def E53 : Env := { tt, eqs := [], cts := [ct93, ct94] }
theorem ok53 : EnvOk Tryz.prog E53 := ⟨ttOk, by kernel_rfl, rfl, mixOk⟩
theorem cs53 (w0 : World) (hJ : J w0) : EnvCts Tryz.prog E53 w0 w0.heap.size := by
  refine ⟨fun c hc => ?_, fun c hc => ?_⟩
  · rcases List.mem_cons.1 hc with rfl | hc
    · exact fun w hb => all93 w (J_below hJ hb)
    rcases List.mem_cons.1 hc with rfl | hc
    · exact fun w hb => all94 w (J_below hJ hb)
    cases hc
  · cases hc
noncomputable def ct53 : Ct := { f := 53, ps := [.v true .ro ls47], rs := [(true, ls47)], shared := false, pre := fun (x : Sto) => pCloneStored x, F := fun (x : Sto) => mCloneStored x }
theorem law53 : ∀ x : Sto, pCloneStored x → s_impl_cloneStored x (fun r => r = mCloneStored x) := fun x h => impl_cloneStored_ok x h
theorem all53 (w : World) (hJ : J w) : CtAt Tryz.prog ct53 w :=
  ct_by ok53 (cs53 w hJ) Tryz.func53 (by kernel_rfl) (H := (hint [])) law53 (by kernel_rfl)
noncomputable def E95 : Env := { tt, eqs := [], cts := [] }
theorem ok95 : EnvOk Tryz.prog E95 := ⟨ttOk, by kernel_rfl, rfl, mixOk⟩
theorem cs95 (w0 : World) (hJ : J w0) : EnvCts Tryz.prog E95 w0 w0.heap.size := by
  refine ⟨fun c hc => ?_, fun c hc => ?_⟩
  · cases hc
  · cases hc
noncomputable def ct95 : Ct := { f := 95, ps := [.v true .ro ls122, .v true .ro ls122], rs := [(false, [.bool])], shared := false, pre := fun (q : Fld × Fld) => pEq q.1 q.2, F := fun (q : Fld × Fld) => eqF q.1 q.2 }
def st95 : List (EqStep Fld) := [.ne (fun (x y : Fld) => x.1 ≠ y.1), .ne (fun (x y : Fld) => x.2 ≠ y.2)]
def mk95 (a0 : S) (a1 : S) : Fld := (a0, a1)
theorem a95 (x y : Fld) : eqAll x y st95 ↔ x = y := by
  constructor
  · rintro ⟨h0, h1, -⟩
    have h0 : x.1 = y.1 := Classical.byContradiction h0
    have h1 : x.2 = y.2 := Classical.byContradiction h1
    show mk95 (x.1) (x.2) = mk95 (y.1) (y.2)
    rw [h0, h1]
    all_goals rfl
  · rintro rfl
    exact ⟨fun h => h rfl, fun h => h rfl, trivial⟩
theorem w95 (x y : Fld) (h : wd x) : eqFine x y st95 := by
  first | simp only [wd_pair] at h | skip
  simp only [eqFine, st95, wd_pair]
  all_goals simp only [h, and_self]
theorem law95 : ∀ q : Fld × Fld, pEq q.1 q.2 → eqSt q.1 q.2 st95 (fun r => r = eqF q.1 q.2) := fun q hq => eqSt_holds q.1 q.2 st95 (w95 q.1 q.2 hq) (eqF_iff.trans (a95 q.1 q.2).symm)
theorem all95 (w : World) (hJ : J w) : CtAt Tryz.prog ct95 w :=
  ct_by ok95 (cs95 w hJ) Tryz.func95 (by kernel_rfl) (H := (hint [])) law95 (by kernel_rfl)
noncomputable def E54 : Env := { tt, eqs := [], cts := [ct95] }
theorem ok54 : EnvOk Tryz.prog E54 := ⟨ttOk, by kernel_rfl, rfl, mixOk⟩
theorem cs54 (w0 : World) (hJ : J w0) : EnvCts Tryz.prog E54 w0 w0.heap.size := by
  refine ⟨fun c hc => ?_, fun c hc => ?_⟩
  · rcases List.mem_cons.1 hc with rfl | hc
    · exact fun w hb => all95 w (J_below hJ hb)
    cases hc
  · cases hc
noncomputable def ct54 : Ct := { f := 54, ps := [.v false .ro ls43, .v false .ro ls43], rs := [(false, [.bool])], shared := false, pre := fun (q : (List Fld) × (List Fld)) => pEq q.1 q.2, F := fun (q : (List Fld) × (List Fld)) => eqF q.1 q.2 }
theorem law54 : ∀ q : (List Fld) × (List Fld), pEq q.1 q.2 → eqS (α := Fld) Dft.dft (fun a b => pEq a b) (fun a b => eqF a b) q.1 q.2 (fun r => r = eqF q.1 q.2) := fun q hq => eqS_holds (α := Fld) Dft.dft (fun a b => pEq a b) (fun a b => eqF a b) q.1 q.2 hq.1 (fun i a _ h => hq.2 i a h) (fun _ _ => eqF_iff) eqF_iff
theorem all54 (w : World) (hJ : J w) : CtAt Tryz.prog ct54 w :=
  ct_by ok54 (cs54 w hJ) Tryz.func54 (by kernel_rfl) (H := (hint [(4, [.val 5 (.int .i64)])])) law54 (by kernel_rfl)
noncomputable def E55 : Env := { tt, eqs := [], cts := [ct54] }
theorem ok55 : EnvOk Tryz.prog E55 := ⟨ttOk, by kernel_rfl, rfl, mixOk⟩
theorem cs55 (w0 : World) (hJ : J w0) : EnvCts Tryz.prog E55 w0 w0.heap.size := by
  refine ⟨fun c hc => ?_, fun c hc => ?_⟩
  · rcases List.mem_cons.1 hc with rfl | hc
    · exact fun w hb => all54 w (J_below hJ hb)
    cases hc
  · cases hc
noncomputable def ct55 : Ct := { f := 55, ps := [.v true .ro ls45, .v true .ro ls45], rs := [(false, [.bool])], shared := false, pre := fun (q : Rsp × Rsp) => pEq q.1 q.2, F := fun (q : Rsp × Rsp) => eqF q.1 q.2 }
def st55 : List (EqStep Rsp) := [.ne (fun (x y : Rsp) => x.1 ≠ y.1), .call (fun (x _ : Rsp) => wd (x.2.1 : (List Fld))) (fun (x y : Rsp) => eqF (x.2.1 : (List Fld)) y.2.1), .ne (fun (x y : Rsp) => x.2.2 ≠ y.2.2)]
def mk55 (a0 : Int) (a1 : (List Fld)) (a2 : S) : Rsp := (a0, a1, a2)
theorem a55 (x y : Rsp) : eqAll x y st55 ↔ x = y := by
  constructor
  · rintro ⟨h0, h1, h2, -⟩
    have h0 : x.1 = y.1 := Classical.byContradiction h0
    have h1 : (x.2.1 : (List Fld)) = y.2.1 := eqF_iff.1 h1
    have h2 : x.2.2 = y.2.2 := Classical.byContradiction h2
    show mk55 (x.1) (x.2.1) (x.2.2) = mk55 (y.1) (y.2.1) (y.2.2)
    rw [h0, h1, h2]
    all_goals rfl
  · rintro rfl
    exact ⟨fun h => h rfl, eqF_iff.2 rfl, fun h => h rfl, trivial⟩
theorem w55 (x y : Rsp) (h : wd x) : eqFine x y st55 := by
  first | simp only [wd_pair] at h | skip
  simp only [eqFine, st55, wd_pair]
  all_goals simp only [h, and_self]
theorem law55 : ∀ q : Rsp × Rsp, pEq q.1 q.2 → eqSt q.1 q.2 st55 (fun r => r = eqF q.1 q.2) := fun q hq => eqSt_holds q.1 q.2 st55 (w55 q.1 q.2 hq) (eqF_iff.trans (a55 q.1 q.2).symm)
theorem all55 (w : World) (hJ : J w) : CtAt Tryz.prog ct55 w :=
  ct_by ok55 (cs55 w hJ) Tryz.func55 (by kernel_rfl) (H := (hint [])) law55 (by kernel_rfl)
noncomputable def E19 : Env := { tt, eqs := [], cts := [ct54, ct55] }
theorem ok19 : EnvOk Tryz.prog E19 := ⟨ttOk, by kernel_rfl, rfl, mixOk⟩
theorem cs19 (w0 : World) (hJ : J w0) : EnvCts Tryz.prog E19 w0 w0.heap.size := by
  refine ⟨fun c hc => ?_, fun c hc => ?_⟩
  · rcases List.mem_cons.1 hc with rfl | hc
    · exact fun w hb => all54 w (J_below hJ hb)
    rcases List.mem_cons.1 hc with rfl | hc
    · exact fun w hb => all55 w (J_below hJ hb)
    cases hc
  · cases hc
noncomputable def ct19 : Ct := { f := 19, ps := [.v true .ro ls47, .v true .ro ls47], rs := [(false, [.bool])], shared := false, pre := fun (q : Sto × Sto) => pEq q.1 q.2, F := fun (q : Sto × Sto) => eqF q.1 q.2 }
def st19 : List (EqStep Sto) := [.ne (fun (x y : Sto) => x.1 ≠ y.1), .call (fun (x _ : Sto) => wd (x.2.1 : (List Fld))) (fun (x y : Sto) => eqF (x.2.1 : (List Fld)) y.2.1), .call (fun (x _ : Sto) => wd ((x.2.2.1, x.2.2.2.1, x.2.2.2.2.1) : Rsp)) (fun (x y : Sto) => eqF ((x.2.2.1, x.2.2.2.1, x.2.2.2.2.1) : Rsp) (y.2.2.1, y.2.2.2.1, y.2.2.2.2.1)), .ne (fun (x y : Sto) => x.2.2.2.2.2.1 ≠ y.2.2.2.2.2.1), .ne (fun (x y : Sto) => x.2.2.2.2.2.2 ≠ y.2.2.2.2.2.2)]
def mk19 (a0 : S) (a1 : (List Fld)) (a2 : Rsp) (a3 : Int) (a4 : Int) : Sto := (a0, a1, a2.1, a2.2.1, a2.2.2, a3, a4)
theorem a19 (x y : Sto) : eqAll x y st19 ↔ x = y := by
  constructor
  · rintro ⟨h0, h1, h2, h3, h4, -⟩
    have h0 : x.1 = y.1 := Classical.byContradiction h0
    have h1 : (x.2.1 : (List Fld)) = y.2.1 := eqF_iff.1 h1
    have h2 : ((x.2.2.1, x.2.2.2.1, x.2.2.2.2.1) : Rsp) = (y.2.2.1, y.2.2.2.1, y.2.2.2.2.1) := eqF_iff.1 h2
    have h3 : x.2.2.2.2.2.1 = y.2.2.2.2.2.1 := Classical.byContradiction h3
    have h4 : x.2.2.2.2.2.2 = y.2.2.2.2.2.2 := Classical.byContradiction h4
    show mk19 (x.1) (x.2.1) ((x.2.2.1, x.2.2.2.1, x.2.2.2.2.1)) (x.2.2.2.2.2.1) (x.2.2.2.2.2.2) = mk19 (y.1) (y.2.1) ((y.2.2.1, y.2.2.2.1, y.2.2.2.2.1)) (y.2.2.2.2.2.1) (y.2.2.2.2.2.2)
    rw [h0, h1, h2, h3, h4]
    all_goals rfl
  · rintro rfl
    exact ⟨fun h => h rfl, eqF_iff.2 rfl, eqF_iff.2 rfl, fun h => h rfl, fun h => h rfl, trivial⟩
theorem w19 (x y : Sto) (h : wd x) : eqFine x y st19 := by
  first | simp only [wd_pair] at h | skip
  simp only [eqFine, st19, wd_pair]
  all_goals simp only [h, and_self]
theorem law19 : ∀ q : Sto × Sto, pEq q.1 q.2 → eqSt q.1 q.2 st19 (fun r => r = eqF q.1 q.2) := fun q hq => eqSt_holds q.1 q.2 st19 (w19 q.1 q.2 hq) (eqF_iff.trans (a19 q.1 q.2).symm)
theorem all19 (w : World) (hJ : J w) : CtAt Tryz.prog ct19 w :=
  ct_by ok19 (cs19 w hJ) Tryz.func19 (by kernel_rfl) (H := (hint [])) law19 (by kernel_rfl)
noncomputable def E79 : Env := { tt, eqs := [], cts := [ct19] }
theorem ok79 : EnvOk Tryz.prog E79 := ⟨ttOk, by kernel_rfl, rfl, mixOk⟩
theorem cs79 (w0 : World) (hJ : J w0) : EnvCts Tryz.prog E79 w0 w0.heap.size := by
  refine ⟨fun c hc => ?_, fun c hc => ?_⟩
  · rcases List.mem_cons.1 hc with rfl | hc
    · exact fun w hb => all19 w (J_below hJ hb)
    cases hc
  · cases hc
noncomputable def ct79 : Ct := { f := 79, ps := [.v true .ro ls71, .v true .ro ls71], rs := [(false, [.bool])], shared := false, pre := fun (q : Slt × Slt) => pEq q.1 q.2, F := fun (q : Slt × Slt) => eqF q.1 q.2 }
def st79 : List (EqStep Slt) := [.call (fun (x _ : Slt) => wd ((x.1, x.2.1, x.2.2.1, x.2.2.2.1, x.2.2.2.2.1, x.2.2.2.2.2.1, x.2.2.2.2.2.2.1) : Sto)) (fun (x y : Slt) => eqF ((x.1, x.2.1, x.2.2.1, x.2.2.2.1, x.2.2.2.2.1, x.2.2.2.2.2.1, x.2.2.2.2.2.2.1) : Sto) (y.1, y.2.1, y.2.2.1, y.2.2.2.1, y.2.2.2.2.1, y.2.2.2.2.2.1, y.2.2.2.2.2.2.1)), .ne (fun (x y : Slt) => x.2.2.2.2.2.2.2 ≠ y.2.2.2.2.2.2.2)]
def mk79 (a0 : Sto) (a1 : Bool) : Slt := (a0.1, a0.2.1, a0.2.2.1, a0.2.2.2.1, a0.2.2.2.2.1, a0.2.2.2.2.2.1, a0.2.2.2.2.2.2, a1)
theorem a79 (x y : Slt) : eqAll x y st79 ↔ x = y := by
  constructor
  · rintro ⟨h0, h1, -⟩
    have h0 : ((x.1, x.2.1, x.2.2.1, x.2.2.2.1, x.2.2.2.2.1, x.2.2.2.2.2.1, x.2.2.2.2.2.2.1) : Sto) = (y.1, y.2.1, y.2.2.1, y.2.2.2.1, y.2.2.2.2.1, y.2.2.2.2.2.1, y.2.2.2.2.2.2.1) := eqF_iff.1 h0
    have h1 : x.2.2.2.2.2.2.2 = y.2.2.2.2.2.2.2 := Classical.byContradiction h1
    show mk79 ((x.1, x.2.1, x.2.2.1, x.2.2.2.1, x.2.2.2.2.1, x.2.2.2.2.2.1, x.2.2.2.2.2.2.1)) (x.2.2.2.2.2.2.2) = mk79 ((y.1, y.2.1, y.2.2.1, y.2.2.2.1, y.2.2.2.2.1, y.2.2.2.2.2.1, y.2.2.2.2.2.2.1)) (y.2.2.2.2.2.2.2)
    rw [h0, h1]
    all_goals rfl
  · rintro rfl
    exact ⟨eqF_iff.2 rfl, fun h => h rfl, trivial⟩
theorem w79 (x y : Slt) (h : wd x) : eqFine x y st79 := by
  first | simp only [wd_pair] at h | skip
  simp only [eqFine, st79, wd_pair]
  all_goals simp only [h, and_self]
theorem law79 : ∀ q : Slt × Slt, pEq q.1 q.2 → eqSt q.1 q.2 st79 (fun r => r = eqF q.1 q.2) := fun q hq => eqSt_holds q.1 q.2 st79 (w79 q.1 q.2 hq) (eqF_iff.trans (a79 q.1 q.2).symm)
theorem all79 (w : World) (hJ : J w) : CtAt Tryz.prog ct79 w :=
  ct_by ok79 (cs79 w hJ) Tryz.func79 (by kernel_rfl) (H := (hint [])) law79 (by kernel_rfl)
noncomputable def E37 : Env := { tt, eqs := [], cts := [ct79] }
theorem ok37 : EnvOk Tryz.prog E37 := ⟨ttOk, by kernel_rfl, rfl, mixOk⟩
theorem cs37 (w0 : World) (hJ : J w0) : EnvCts Tryz.prog E37 w0 w0.heap.size := by
  refine ⟨fun c hc => ?_, fun c hc => ?_⟩
  · rcases List.mem_cons.1 hc with rfl | hc
    · exact fun w hb => all79 w (J_below hJ hb)
    cases hc
  · cases hc
noncomputable def ct37 : Ct := { f := 37, ps := [.v false .ro ls26, .v false .ro ls26], rs := [(false, [.bool])], shared := false, pre := fun (q : (List Slt) × (List Slt)) => pEq q.1 q.2, F := fun (q : (List Slt) × (List Slt)) => eqF q.1 q.2 }
theorem law37 : ∀ q : (List Slt) × (List Slt), pEq q.1 q.2 → eqS (α := Slt) Dft.dft (fun a b => pEq a b) (fun a b => eqF a b) q.1 q.2 (fun r => r = eqF q.1 q.2) := fun q hq => eqS_holds (α := Slt) Dft.dft (fun a b => pEq a b) (fun a b => eqF a b) q.1 q.2 hq.1 (fun i a _ h => hq.2 i a h) (fun _ _ => eqF_iff) eqF_iff
theorem all37 (w : World) (hJ : J w) : CtAt Tryz.prog ct37 w :=
  ct_by ok37 (cs37 w hJ) Tryz.func37 (by kernel_rfl) (H := (hint [(4, [.val 5 (.int .i64)])])) law37 (by kernel_rfl)
noncomputable def E10 : Env := { tt, eqs := [], cts := [ct37] }
theorem ok10 : EnvOk Tryz.prog E10 := ⟨ttOk, by kernel_rfl, rfl, mixOk⟩
theorem cs10 (w0 : World) (hJ : J w0) : EnvCts Tryz.prog E10 w0 w0.heap.size := by
  refine ⟨fun c hc => ?_, fun c hc => ?_⟩
  · rcases List.mem_cons.1 hc with rfl | hc
    · exact fun w hb => all37 w (J_below hJ hb)
    cases hc
  · cases hc
noncomputable def ct10 : Ct := { f := 10, ps := [.v true .ro ls28, .v true .ro ls28], rs := [(false, [.bool])], shared := false, pre := fun (q : Shd × Shd) => pEq q.1 q.2, F := fun (q : Shd × Shd) => eqF q.1 q.2 }
def st10 : List (EqStep Shd) := [.ne (fun (x y : Shd) => x.1 ≠ y.1), .ne (fun (x y : Shd) => x.2.1 ≠ y.2.1), .call (fun (x _ : Shd) => wd (x.2.2.1 : (List Slt))) (fun (x y : Shd) => eqF (x.2.2.1 : (List Slt)) y.2.2.1), .ne (fun (x y : Shd) => x.2.2.2 ≠ y.2.2.2)]
def mk10 (a0 : Int) (a1 : Int) (a2 : (List Slt)) (a3 : Int) : Shd := (a0, a1, a2, a3)
theorem a10 (x y : Shd) : eqAll x y st10 ↔ x = y := by
  constructor
  · rintro ⟨h0, h1, h2, h3, -⟩
    have h0 : x.1 = y.1 := Classical.byContradiction h0
    have h1 : x.2.1 = y.2.1 := Classical.byContradiction h1
    have h2 : (x.2.2.1 : (List Slt)) = y.2.2.1 := eqF_iff.1 h2
    have h3 : x.2.2.2 = y.2.2.2 := Classical.byContradiction h3
    show mk10 (x.1) (x.2.1) (x.2.2.1) (x.2.2.2) = mk10 (y.1) (y.2.1) (y.2.2.1) (y.2.2.2)
    rw [h0, h1, h2, h3]
    all_goals rfl
  · rintro rfl
    exact ⟨fun h => h rfl, fun h => h rfl, eqF_iff.2 rfl, fun h => h rfl, trivial⟩
theorem w10 (x y : Shd) (h : wd x) : eqFine x y st10 := by
  first | simp only [wd_pair] at h | skip
  simp only [eqFine, st10, wd_pair]
  all_goals simp only [h, and_self]
theorem law10 : ∀ q : Shd × Shd, pEq q.1 q.2 → eqSt q.1 q.2 st10 (fun r => r = eqF q.1 q.2) := fun q hq => eqSt_holds q.1 q.2 st10 (w10 q.1 q.2 hq) (eqF_iff.trans (a10 q.1 q.2).symm)
theorem all10 (w : World) (hJ : J w) : CtAt Tryz.prog ct10 w :=
  ct_by ok10 (cs10 w hJ) Tryz.func10 (by kernel_rfl) (H := (hint [])) law10 (by kernel_rfl)
noncomputable def E56 : Env := { tt, eqs := [], cts := [ct10] }
theorem ok56 : EnvOk Tryz.prog E56 := ⟨ttOk, by kernel_rfl, rfl, mixOk⟩
theorem cs56 (w0 : World) (hJ : J w0) : EnvCts Tryz.prog E56 w0 w0.heap.size := by
  refine ⟨fun c hc => ?_, fun c hc => ?_⟩
  · rcases List.mem_cons.1 hc with rfl | hc
    · exact fun w hb => all10 w (J_below hJ hb)
    cases hc
  · cases hc
noncomputable def ct56 : Ct := { f := 56, ps := [.v false .ro ls50, .v false .ro ls50], rs := [(false, [.bool])], shared := false, pre := fun (q : (List Shd) × (List Shd)) => pEq q.1 q.2, F := fun (q : (List Shd) × (List Shd)) => eqF q.1 q.2 }
theorem law56 : ∀ q : (List Shd) × (List Shd), pEq q.1 q.2 → eqS (α := Shd) Dft.dft (fun a b => pEq a b) (fun a b => eqF a b) q.1 q.2 (fun r => r = eqF q.1 q.2) := fun q hq => eqS_holds (α := Shd) Dft.dft (fun a b => pEq a b) (fun a b => eqF a b) q.1 q.2 hq.1 (fun i a _ h => hq.2 i a h) (fun _ _ => eqF_iff) eqF_iff
theorem all56 (w : World) (hJ : J w) : CtAt Tryz.prog ct56 w :=
  ct_by ok56 (cs56 w hJ) Tryz.func56 (by kernel_rfl) (H := (hint [(4, [.val 5 (.int .i64)])])) law56 (by kernel_rfl)
noncomputable def E96 : Env := { tt, eqs := [], cts := [] }
theorem ok96 : EnvOk Tryz.prog E96 := ⟨ttOk, by kernel_rfl, rfl, mixOk⟩
theorem cs96 (w0 : World) (hJ : J w0) : EnvCts Tryz.prog E96 w0 w0.heap.size := by
  refine ⟨fun c hc => ?_, fun c hc => ?_⟩
  · cases hc
  · cases hc
noncomputable def ct96 : Ct := { f := 96, ps := [.v true .ro ls117, .v true .ro ls117], rs := [(false, [.bool])], shared := false, pre := fun (q : Gen × Gen) => pEq q.1 q.2, F := fun (q : Gen × Gen) => eqF q.1 q.2 }
def st96 : List (EqStep Gen) := [.ne (fun (x y : Gen) => x.1 ≠ y.1), .ne (fun (x y : Gen) => x.2 ≠ y.2)]
def mk96 (a0 : S) (a1 : Int) : Gen := (a0, a1)
theorem a96 (x y : Gen) : eqAll x y st96 ↔ x = y := by
  constructor
  · rintro ⟨h0, h1, -⟩
    have h0 : x.1 = y.1 := Classical.byContradiction h0
    have h1 : x.2 = y.2 := Classical.byContradiction h1
    show mk96 (x.1) (x.2) = mk96 (y.1) (y.2)
    rw [h0, h1]
    all_goals rfl
  · rintro rfl
    exact ⟨fun h => h rfl, fun h => h rfl, trivial⟩
theorem w96 (x y : Gen) (h : wd x) : eqFine x y st96 := by
  first | simp only [wd_pair] at h | skip
  simp only [eqFine, st96, wd_pair]
  all_goals simp only [h, and_self]
theorem law96 : ∀ q : Gen × Gen, pEq q.1 q.2 → eqSt q.1 q.2 st96 (fun r => r = eqF q.1 q.2) := fun q hq => eqSt_holds q.1 q.2 st96 (w96 q.1 q.2 hq) (eqF_iff.trans (a96 q.1 q.2).symm)
theorem all96 (w : World) (hJ : J w) : CtAt Tryz.prog ct96 w :=
  ct_by ok96 (cs96 w hJ) Tryz.func96 (by kernel_rfl) (H := (hint [])) law96 (by kernel_rfl)
noncomputable def E57 : Env := { tt, eqs := [], cts := [ct96] }
theorem ok57 : EnvOk Tryz.prog E57 := ⟨ttOk, by kernel_rfl, rfl, mixOk⟩
theorem cs57 (w0 : World) (hJ : J w0) : EnvCts Tryz.prog E57 w0 w0.heap.size := by
  refine ⟨fun c hc => ?_, fun c hc => ?_⟩
  · rcases List.mem_cons.1 hc with rfl | hc
    · exact fun w hb => all96 w (J_below hJ hb)
    cases hc
  · cases hc
noncomputable def ct57 : Ct := { f := 57, ps := [.v false .ro ls51, .v false .ro ls51], rs := [(false, [.bool])], shared := false, pre := fun (q : (List Gen) × (List Gen)) => pEq q.1 q.2, F := fun (q : (List Gen) × (List Gen)) => eqF q.1 q.2 }
theorem law57 : ∀ q : (List Gen) × (List Gen), pEq q.1 q.2 → eqS (α := Gen) Dft.dft (fun a b => pEq a b) (fun a b => eqF a b) q.1 q.2 (fun r => r = eqF q.1 q.2) := fun q hq => eqS_holds (α := Gen) Dft.dft (fun a b => pEq a b) (fun a b => eqF a b) q.1 q.2 hq.1 (fun i a _ h => hq.2 i a h) (fun _ _ => eqF_iff) eqF_iff
theorem all57 (w : World) (hJ : J w) : CtAt Tryz.prog ct57 w :=
  ct_by ok57 (cs57 w hJ) Tryz.func57 (by kernel_rfl) (H := (hint [(4, [.val 5 (.int .i64)])])) law57 (by kernel_rfl)
noncomputable def E20 : Env := { tt, eqs := [], cts := [ct56, ct57] }
theorem ok20 : EnvOk Tryz.prog E20 := ⟨ttOk, by kernel_rfl, rfl, mixOk⟩
theorem cs20 (w0 : World) (hJ : J w0) : EnvCts Tryz.prog E20 w0 w0.heap.size := by
  refine ⟨fun c hc => ?_, fun c hc => ?_⟩
  · rcases List.mem_cons.1 hc with rfl | hc
    · exact fun w hb => all56 w (J_below hJ hb)
    rcases List.mem_cons.1 hc with rfl | hc
    · exact fun w hb => all57 w (J_below hJ hb)
    cases hc
  · cases hc
noncomputable def ct20 : Ct := { f := 20, ps := [.v true .ro ls53, .v true .ro ls53], rs := [(false, [.bool])], shared := false, pre := fun (q : Cch × Cch) => pEq q.1 q.2, F := fun (q : Cch × Cch) => eqF q.1 q.2 }
def st20 : List (EqStep Cch) := [.call (fun (x _ : Cch) => wd (x.1 : (List Shd))) (fun (x y : Cch) => eqF (x.1 : (List Shd)) y.1), .call (fun (x _ : Cch) => wd (x.2 : (List Gen))) (fun (x y : Cch) => eqF (x.2 : (List Gen)) y.2)]
def mk20 (a0 : (List Shd)) (a1 : (List Gen)) : Cch := (a0, a1)
theorem a20 (x y : Cch) : eqAll x y st20 ↔ x = y := by
  constructor
  · rintro ⟨h0, h1, -⟩
    have h0 : (x.1 : (List Shd)) = y.1 := eqF_iff.1 h0
    have h1 : (x.2 : (List Gen)) = y.2 := eqF_iff.1 h1
    show mk20 (x.1) (x.2) = mk20 (y.1) (y.2)
    rw [h0, h1]
    all_goals rfl
  · rintro rfl
    exact ⟨eqF_iff.2 rfl, eqF_iff.2 rfl, trivial⟩
theorem w20 (x y : Cch) (h : wd x) : eqFine x y st20 := by
  first | simp only [wd_pair] at h | skip
  simp only [eqFine, st20, wd_pair]
  all_goals simp only [h, and_self]
theorem law20 : ∀ q : Cch × Cch, pEq q.1 q.2 → eqSt q.1 q.2 st20 (fun r => r = eqF q.1 q.2) := fun q hq => eqSt_holds q.1 q.2 st20 (w20 q.1 q.2 hq) (eqF_iff.trans (a20 q.1 q.2).symm)
theorem all20 (w : World) (hJ : J w) : CtAt Tryz.prog ct20 w :=
  ct_by ok20 (cs20 w hJ) Tryz.func20 (by kernel_rfl) (H := (hint [])) law20 (by kernel_rfl)
noncomputable def E21 : Env := { tt, eqs := [], cts := [ct54] }
theorem ok21 : EnvOk Tryz.prog E21 := ⟨ttOk, by kernel_rfl, rfl, mixOk⟩
theorem cs21 (w0 : World) (hJ : J w0) : EnvCts Tryz.prog E21 w0 w0.heap.size := by
  refine ⟨fun c hc => ?_, fun c hc => ?_⟩
  · rcases List.mem_cons.1 hc with rfl | hc
    · exact fun w hb => all54 w (J_below hJ hb)
    cases hc
  · cases hc
noncomputable def ct21 : Ct := { f := 21, ps := [.v true .ro ls56, .v true .ro ls56], rs := [(false, [.bool])], shared := false, pre := fun (q : Req × Req) => pEq q.1 q.2, F := fun (q : Req × Req) => eqF q.1 q.2 }
def st21 : List (EqStep Req) := [.ne (fun (x y : Req) => x.1 ≠ y.1), .ne (fun (x y : Req) => x.2.1 ≠ y.2.1), .call (fun (x _ : Req) => wd (x.2.2.1 : (List Fld))) (fun (x y : Req) => eqF (x.2.2.1 : (List Fld)) y.2.2.1), .ne (fun (x y : Req) => x.2.2.2 ≠ y.2.2.2)]
def mk21 (a0 : S) (a1 : S) (a2 : (List Fld)) (a3 : S) : Req := (a0, a1, a2, a3)
theorem a21 (x y : Req) : eqAll x y st21 ↔ x = y := by
  constructor
  · rintro ⟨h0, h1, h2, h3, -⟩
    have h0 : x.1 = y.1 := Classical.byContradiction h0
    have h1 : x.2.1 = y.2.1 := Classical.byContradiction h1
    have h2 : (x.2.2.1 : (List Fld)) = y.2.2.1 := eqF_iff.1 h2
    have h3 : x.2.2.2 = y.2.2.2 := Classical.byContradiction h3
    show mk21 (x.1) (x.2.1) (x.2.2.1) (x.2.2.2) = mk21 (y.1) (y.2.1) (y.2.2.1) (y.2.2.2)
    rw [h0, h1, h2, h3]
    all_goals rfl
  · rintro rfl
    exact ⟨fun h => h rfl, fun h => h rfl, eqF_iff.2 rfl, fun h => h rfl, trivial⟩
theorem w21 (x y : Req) (h : wd x) : eqFine x y st21 := by
  first | simp only [wd_pair] at h | skip
  simp only [eqFine, st21, wd_pair]
  all_goals simp only [h, and_self]
theorem law21 : ∀ q : Req × Req, pEq q.1 q.2 → eqSt q.1 q.2 st21 (fun r => r = eqF q.1 q.2) := fun q hq => eqSt_holds q.1 q.2 st21 (w21 q.1 q.2 hq) (eqF_iff.trans (a21 q.1 q.2).symm)
theorem all21 (w : World) (hJ : J w) : CtAt Tryz.prog ct21 w :=
  ct_by ok21 (cs21 w hJ) Tryz.func21 (by kernel_rfl) (H := (hint [])) law21 (by kernel_rfl)
noncomputable def E80 : Env := { tt, eqs := [], cts := [] }
theorem ok80 : EnvOk Tryz.prog E80 := ⟨ttOk, by kernel_rfl, rfl, mixOk⟩
theorem cs80 (w0 : World) (hJ : J w0) : EnvCts Tryz.prog E80 w0 w0.heap.size := by
  refine ⟨fun c hc => ?_, fun c hc => ?_⟩
  · cases hc
  · cases hc
noncomputable def ct80 : Ct := { f := 80, ps := [.v false .ro ls3], rs := [(false, ls9)], shared := false, pre := fun (x : Int) => pMarkText x, F := fun (x : Int) => mMarkText x }
theorem law80 : ∀ x : Int, pMarkText x → s_laws_markText x (fun r => r = mMarkText x) := fun x h => laws_markText_ok x h
theorem all80 (w : World) (hJ : J w) : CtAt Tryz.prog ct80 w :=
  ct_by ok80 (cs80 w hJ) Tryz.func80 (by kernel_rfl) (H := (hint [(4, [.val 0 (.int .i64), .val 3 (.str)])])) law80 (by kernel_rfl)
noncomputable def E60 : Env := { tt, eqs := [], cts := [ct80] }
theorem ok60 : EnvOk Tryz.prog E60 := ⟨ttOk, by kernel_rfl, rfl, mixOk⟩
theorem cs60 (m : Nat) (w0 : World) (hJ : Jn m w0) : EnvCts Tryz.prog E60 w0 m := by
  refine ⟨fun c hc => ?_, fun c hc => ?_⟩
  · rcases List.mem_cons.1 hc with rfl | hc
    · exact fun w hb => all80 w (Jn_J (Jn_below hJ hb))
    cases hc
  · cases hc
noncomputable def ct60 : CtM := { f := 60, ps := [.v false .io ls43, .v false .ro ls3], rs := [(false, ls3)], pre := fun (x : (List Fld) × Int) => pMarkFieldS x.1 x.2, F := fun (x : (List Fld) × Int) => mMarkFieldS x.1 x.2, W := fun (x : (List Fld) × Int) => wMarkFieldS x.1 x.2 }
theorem law60 : ∀ x : (List Fld) × Int, pMarkFieldS x.1 x.2 → s_laws_markFieldS x.1 x.2 (fun r y => r = mMarkFieldS x.1 x.2 ∧ y = wMarkFieldS x.1 x.2) := fun x h => laws_markFieldS_ok x.1 x.2 h
theorem all60 (m : Nat) (w : World) (hJ : Jn m w) : CtMAt Tryz.prog ct60 m w :=
  ctm_by ok60 (cs60 m w hJ) Tryz.func60 (by kernel_rfl) (H := (hint [(2, [.val 1 (.int .i64), .val 5 (.int .i64), .reg 0 122 [.str, .str] true])])) law60 (by kernel_rfl)
noncomputable def E38 : Env := { tt, eqs := [], cts := [ct80], ms := [ct60], deep := true }
theorem ok38 : EnvOk Tryz.prog E38 := ⟨ttOk, by kernel_rfl, rfl, mixOk⟩
theorem cs38 (m : Nat) (w0 : World) (hJ : Jn m w0) : EnvCts Tryz.prog E38 w0 m := by
  refine ⟨fun c hc => ?_, fun c hc => ?_⟩
  · rcases List.mem_cons.1 hc with rfl | hc
    · exact fun w hb => all80 w (Jn_J (Jn_below hJ hb))
    cases hc
  · rcases List.mem_cons.1 hc with rfl | hc
    · exact fun w hb => all60 m w (Jn_below hJ hb)
    cases hc
noncomputable def ct38 : CtM := { f := 38, ps := [.v false .io ls26, .v false .ro ls3], rs := [(false, ls3)], pre := fun (x : (List Slt) × Int) => pMarkSlotS x.1 x.2, F := fun (x : (List Slt) × Int) => mMarkSlotS x.1 x.2, W := fun (x : (List Slt) × Int) => wMarkSlotS x.1 x.2, deep := true }
theorem law38 : ∀ x : (List Slt) × Int, pMarkSlotS x.1 x.2 → s_laws_markSlotS x.1 x.2 (fun r y => r = mMarkSlotS x.1 x.2 ∧ y = wMarkSlotS x.1 x.2) := fun x h => laws_markSlotS_ok x.1 x.2 h
theorem all38 (m : Nat) (w : World) (hJ : Jn m w) : CtMAt Tryz.prog ct38 m w :=
  ctm_by ok38 (cs38 m w hJ) Tryz.func38 (by kernel_rfl) (H := (hint [(2, [.val 1 (.int .i64), .val 5 (.int .i64), .reg 0 71 [.str, .list 122 [.str, .str], .int .i64, .list 122 [.str, .str], .str, .int .i64, .int .i64, .bool] true true])])) law38 (by kernel_rfl)
noncomputable def E58 : Env := { tt, eqs := [], cts := [], ms := [ct38], deep := true }
theorem ok58 : EnvOk Tryz.prog E58 := ⟨ttOk, by kernel_rfl, rfl, mixOk⟩
theorem cs58 (m : Nat) (w0 : World) (hJ : Jn m w0) : EnvCts Tryz.prog E58 w0 m := by
  refine ⟨fun c hc => ?_, fun c hc => ?_⟩
  · cases hc
  · rcases List.mem_cons.1 hc with rfl | hc
    · exact fun w hb => all38 m w (Jn_below hJ hb)
    cases hc
noncomputable def ct58 : CtM := { f := 58, ps := [.v false .io ls50, .v false .ro ls3], rs := [(false, ls3)], pre := fun (x : (List Shd) × Int) => pMarkShardS x.1 x.2, F := fun (x : (List Shd) × Int) => mMarkShardS x.1 x.2, W := fun (x : (List Shd) × Int) => wMarkShardS x.1 x.2, deep := true }
theorem law58 : ∀ x : (List Shd) × Int, pMarkShardS x.1 x.2 → s_laws_markShardS x.1 x.2 (fun r y => r = mMarkShardS x.1 x.2 ∧ y = wMarkShardS x.1 x.2) := fun x h => laws_markShardS_ok x.1 x.2 h
theorem all58 (m : Nat) (w : World) (hJ : Jn m w) : CtMAt Tryz.prog ct58 m w :=
  ctm_by ok58 (cs58 m w hJ) Tryz.func58 (by kernel_rfl) (H := (hint [(2, [.val 1 (.int .i64), .val 5 (.int .i64), .reg 0 28 [.int .i64, .int .i64, .list 71 [.str, .list 122 [.str, .str], .int .i64, .list 122 [.str, .str], .str, .int .i64, .int .i64, .bool], .int .i64] true true])])) law58 (by kernel_rfl)
noncomputable def E59 : Env := { tt, eqs := [], cts := [ct80] }
theorem ok59 : EnvOk Tryz.prog E59 := ⟨ttOk, by kernel_rfl, rfl, mixOk⟩
theorem cs59 (m : Nat) (w0 : World) (hJ : Jn m w0) : EnvCts Tryz.prog E59 w0 m := by
  refine ⟨fun c hc => ?_, fun c hc => ?_⟩
  · rcases List.mem_cons.1 hc with rfl | hc
    · exact fun w hb => all80 w (Jn_J (Jn_below hJ hb))
    cases hc
  · cases hc
noncomputable def ct59 : CtM := { f := 59, ps := [.v false .io ls51, .v false .ro ls3], rs := [(false, ls3)], pre := fun (x : (List Gen) × Int) => pMarkGenRowS x.1 x.2, F := fun (x : (List Gen) × Int) => mMarkGenRowS x.1 x.2, W := fun (x : (List Gen) × Int) => wMarkGenRowS x.1 x.2 }
theorem law59 : ∀ x : (List Gen) × Int, pMarkGenRowS x.1 x.2 → s_laws_markGenRowS x.1 x.2 (fun r y => r = mMarkGenRowS x.1 x.2 ∧ y = wMarkGenRowS x.1 x.2) := fun x h => laws_markGenRowS_ok x.1 x.2 h
theorem all59 (m : Nat) (w : World) (hJ : Jn m w) : CtMAt Tryz.prog ct59 m w :=
  ctm_by ok59 (cs59 m w hJ) Tryz.func59 (by kernel_rfl) (H := (hint [(2, [.val 1 (.int .i64), .val 5 (.int .i64), .reg 0 117 [.str, .int .i64] true])])) law59 (by kernel_rfl)
noncomputable def E22 : Env := { tt, eqs := [], cts := [], ms := [ct58, ct59], deep := true }
theorem ok22 : EnvOk Tryz.prog E22 := ⟨ttOk, by kernel_rfl, rfl, mixOk⟩
theorem cs22 (m : Nat) (w0 : World) (hJ : Jn m w0) : EnvCts Tryz.prog E22 w0 m := by
  refine ⟨fun c hc => ?_, fun c hc => ?_⟩
  · cases hc
  · rcases List.mem_cons.1 hc with rfl | hc
    · exact fun w hb => all58 m w (Jn_below hJ hb)
    rcases List.mem_cons.1 hc with rfl | hc
    · exact fun w hb => all59 m w (Jn_below hJ hb)
    cases hc
noncomputable def ct22 : CtM := { f := 22, ps := [.v true .io ls53, .v false .ro ls3], rs := [(false, ls3)], pre := fun (x : Cch × Int) => pMarkCache x.1 x.2, F := fun (x : Cch × Int) => mMarkCache x.1 x.2, W := fun (x : Cch × Int) => wMarkCache x.1 x.2, deep := true }
theorem law22 : ∀ x : Cch × Int, pMarkCache x.1 x.2 → s_laws_markCache x.1 x.2 (fun r y => r = mMarkCache x.1 x.2 ∧ y = wMarkCache x.1 x.2) := fun x h => laws_markCache_ok x.1 x.2 h
theorem all22 (m : Nat) (w : World) (hJ : Jn m w) : CtMAt Tryz.prog ct22 m w :=
  ctm_by ok22 (cs22 m w hJ) Tryz.func22 (by kernel_rfl) (H := (hint [])) law22 (by kernel_rfl)
noncomputable def E23 : Env := { tt, eqs := [], cts := [], ms := [ct60] }
theorem ok23 : EnvOk Tryz.prog E23 := ⟨ttOk, by kernel_rfl, rfl, mixOk⟩
theorem cs23 (m : Nat) (w0 : World) (hJ : Jn m w0) : EnvCts Tryz.prog E23 w0 m := by
  refine ⟨fun c hc => ?_, fun c hc => ?_⟩
  · cases hc
  · rcases List.mem_cons.1 hc with rfl | hc
    · exact fun w hb => all60 m w (Jn_below hJ hb)
    cases hc
noncomputable def ct23 : CtM := { f := 23, ps := [.v true .io ls56, .v false .ro ls3], rs := [(false, ls3)], pre := fun (x : Req × Int) => pMarkRequest x.1 x.2, F := fun (x : Req × Int) => mMarkRequest x.1 x.2, W := fun (x : Req × Int) => wMarkRequest x.1 x.2 }
theorem law23 : ∀ x : Req × Int, pMarkRequest x.1 x.2 → s_laws_markRequest x.1 x.2 (fun r y => r = mMarkRequest x.1 x.2 ∧ y = wMarkRequest x.1 x.2) := fun x h => laws_markRequest_ok x.1 x.2 h
theorem all23 (m : Nat) (w : World) (hJ : Jn m w) : CtMAt Tryz.prog ct23 m w :=
  ctm_by ok23 (cs23 m w hJ) Tryz.func23 (by kernel_rfl) (H := (hint [])) law23 (by kernel_rfl)
noncomputable def E62 : Env := { tt, eqs := [], cts := [ct80] }
theorem ok62 : EnvOk Tryz.prog E62 := ⟨ttOk, by kernel_rfl, rfl, mixOk⟩
theorem cs62 (w0 : World) (hJ : J w0) : EnvCts Tryz.prog E62 w0 w0.heap.size := by
  refine ⟨fun c hc => ?_, fun c hc => ?_⟩
  · rcases List.mem_cons.1 hc with rfl | hc
    · exact fun w hb => all80 w (J_below hJ hb)
    cases hc
  · cases hc
noncomputable def ct62 : Ct := { f := 62, ps := [.v false .ro ls43, .v false .ro ls3], rs := [(false, ls3)], shared := false, pre := fun (x : (List Fld) × Int) => pHeldFieldS x.1 x.2, F := fun (x : (List Fld) × Int) => mHeldFieldS x.1 x.2 }
theorem law62 : ∀ x : (List Fld) × Int, pHeldFieldS x.1 x.2 → s_laws_heldFieldS x.1 x.2 (fun r => r = mHeldFieldS x.1 x.2) := fun x h => laws_heldFieldS_ok x.1 x.2 h
theorem all62 (w : World) (hJ : J w) : CtAt Tryz.prog ct62 w :=
  ct_by ok62 (cs62 w hJ) Tryz.func62 (by kernel_rfl) (H := (hint [(2, [.val 1 (.int .i64), .val 5 (.int .i64)])])) law62 (by kernel_rfl)
noncomputable def E30 : Env := { tt, eqs := [], cts := [ct46], deep := true }
theorem ok30 : EnvOk Tryz.prog E30 := ⟨ttOk, by kernel_rfl, rfl, mixOk⟩
theorem cs30 (w0 : World) (hJ : J w0) : EnvCts Tryz.prog E30 w0 w0.heap.size := by
  refine ⟨fun c hc => ?_, fun c hc => ?_⟩
  · rcases List.mem_cons.1 hc with rfl | hc
    · exact fun w hb => all46 w (J_below hJ hb)
    cases hc
  · cases hc
noncomputable def ct30 : Ct := { f := 30, ps := [.v true .ro ls28], rs := [(true, ls28)], shared := false, pre := fun (x : Shd) => pL12Copy x, F := fun (x : Shd) => mL12Copy x, deep := true }
theorem law30 : ∀ x : Shd, pL12Copy x → s_spec_l12Copy x (fun r => r = mL12Copy x) := fun x h => spec_l12Copy_ok x h
theorem all30 (w : World) (hJ : J w) : CtAt Tryz.prog ct30 w :=
  ct_by ok30 (cs30 w hJ) Tryz.func30 (by kernel_rfl) (H := (hint [(3, [.reg 3 71 [.str, .list 122 [.str, .str], .int .i64, .list 122 [.str, .str], .str, .int .i64, .int .i64, .bool] true true, .val 4 (.int .i64)])])) law30 (by kernel_rfl)
noncomputable def E64 : Env := { tt, eqs := [], cts := [ct30], deep := true }
theorem ok64 : EnvOk Tryz.prog E64 := ⟨ttOk, by kernel_rfl, rfl, mixOk⟩
theorem cs64 (w0 : World) (hJ : J w0) : EnvCts Tryz.prog E64 w0 w0.heap.size := by
  refine ⟨fun c hc => ?_, fun c hc => ?_⟩
  · rcases List.mem_cons.1 hc with rfl | hc
    · exact fun w hb => all30 w (J_below hJ hb)
    cases hc
  · cases hc
noncomputable def ct64 : Ct := { f := 64, ps := [.v true .ro ls53], rs := [(true, ls53)], shared := false, pre := fun (x : Cch) => pL13Copy x, F := fun (x : Cch) => mL13Copy x, deep := true }
theorem law64 : ∀ x : Cch, pL13Copy x → s_spec_l13Copy x (fun r => r = mL13Copy x) := fun x h => spec_l13Copy_ok x h
theorem all64 (w : World) (hJ : J w) : CtAt Tryz.prog ct64 w :=
  ct_by ok64 (cs64 w hJ) Tryz.func64 (by kernel_rfl) (H := (hint [(3, [.val 4 (.int .i64), .breg 3 0 28 [.int .i64, .int .i64, .list 71 [.str, .list 122 [.str, .str], .int .i64, .list 122 [.str, .str], .str, .int .i64, .int .i64, .bool], .int .i64] true, .breg 3 1 117 [.str, .int .i64]])])) law64 (by kernel_rfl)
noncomputable def E7 : Env := { tt, eqs := [], cts := [ct30, ct31, ct32], deep := true }
theorem ok7 : EnvOk Tryz.prog E7 := ⟨ttOk, by kernel_rfl, rfl, mixOk⟩
theorem cs7 (w0 : World) (hJ : J w0) : EnvCts Tryz.prog E7 w0 w0.heap.size := by
  refine ⟨fun c hc => ?_, fun c hc => ?_⟩
  · rcases List.mem_cons.1 hc with rfl | hc
    · exact fun w hb => all30 w (J_below hJ hb)
    rcases List.mem_cons.1 hc with rfl | hc
    · exact fun w hb => all31 w (J_below hJ hb)
    rcases List.mem_cons.1 hc with rfl | hc
    · exact fun w hb => all32 w (J_below hJ hb)
    cases hc
  · cases hc
noncomputable def ct7 : Ct := { f := 7, ps := [.v true .ro ls28, .v false .ro ls3], rs := [(true, ls28)], shared := false, pre := fun (x : Shd × Int) => pShardTouch x.1 x.2, F := fun (x : Shd × Int) => mShardTouch x.1 x.2, deep := true }
theorem law7 : ∀ x : Shd × Int, pShardTouch x.1 x.2 → s_spec_ShardTouch x.1 x.2 (fun r => r = mShardTouch x.1 x.2) := fun x h => spec_ShardTouch_ok x.1 x.2 h
theorem all7 (w : World) (hJ : J w) : CtAt Tryz.prog ct7 w :=
  ct_by ok7 (cs7 w hJ) Tryz.func7 (by kernel_rfl) (H := (hint [])) law7 (by kernel_rfl)
noncomputable def E26 : Env := { tt, eqs := [], cts := [ct64, ct43, ct44, ct45, ct7], deep := true }
theorem ok26 : EnvOk Tryz.prog E26 := ⟨ttOk, by kernel_rfl, rfl, mixOk⟩
theorem cs26 (w0 : World) (hJ : J w0) : EnvCts Tryz.prog E26 w0 w0.heap.size := by
  refine ⟨fun c hc => ?_, fun c hc => ?_⟩
  · rcases List.mem_cons.1 hc with rfl | hc
    · exact fun w hb => all64 w (J_below hJ hb)
    rcases List.mem_cons.1 hc with rfl | hc
    · exact fun w hb => all43 w (J_below hJ hb)
    rcases List.mem_cons.1 hc with rfl | hc
    · exact fun w hb => all44 w (J_below hJ hb)
    rcases List.mem_cons.1 hc with rfl | hc
    · exact fun w hb => all45 w (J_below hJ hb)
    rcases List.mem_cons.1 hc with rfl | hc
    · exact fun w hb => all7 w (J_below hJ hb)
    cases hc
  · cases hc
noncomputable def ct26 : Ct := { f := 26, ps := [.v true .ro ls53, .v true .ro ls56], rs := [(true, ls53)], shared := false, pre := fun (x : Cch × Req) => pCacheHit x.1 x.2, F := fun (x : Cch × Req) => mCacheHit x.1 x.2, deep := true }
theorem law26 : ∀ x : Cch × Req, pCacheHit x.1 x.2 → s_spec_CacheHit x.1 x.2 (fun r => r = mCacheHit x.1 x.2) := fun x h => spec_CacheHit_ok x.1 x.2 h
theorem all26 (w : World) (hJ : J w) : CtAt Tryz.prog ct26 w :=
  ct_by ok26 (cs26 w hJ) Tryz.func26 (by kernel_rfl) (H := (hint [])) law26 (by kernel_rfl)
noncomputable def E97 : Env := { tt, eqs := [], cts := [] }
theorem ok97 : EnvOk Tryz.prog E97 := ⟨ttOk, by kernel_rfl, rfl, mixOk⟩
theorem cs97 (w0 : World) (hJ : J w0) : EnvCts Tryz.prog E97 w0 w0.heap.size := by
  refine ⟨fun c hc => ?_, fun c hc => ?_⟩
  · cases hc
  · cases hc
noncomputable def ct97 : Ct := { f := 97, ps := [.v false .ro ls51], rs := [(false, ls51)], shared := false, pre := fun (x : (List Gen)) => pClone_GenRow x, F := fun (x : (List Gen)) => mClone_GenRow x }
theorem law97 : ∀ x : (List Gen), pClone_GenRow x → s_slices_Clone_GenRow x (fun r => r = mClone_GenRow x) := fun x h => slices_Clone_GenRow_ok x h
theorem all97 (w : World) (hJ : J w) : CtAt Tryz.prog ct97 w :=
  ct_by ok97 (cs97 w hJ) Tryz.func97 (by kernel_rfl) (H := (hint [])) law97 (by kernel_rfl)
noncomputable def E34 : Env := { tt, eqs := [], cts := [ct53], deep := true }
theorem ok34 : EnvOk Tryz.prog E34 := ⟨ttOk, by kernel_rfl, rfl, mixOk⟩
theorem cs34 (w0 : World) (hJ : J w0) : EnvCts Tryz.prog E34 w0 w0.heap.size := by
  refine ⟨fun c hc => ?_, fun c hc => ?_⟩
  · rcases List.mem_cons.1 hc with rfl | hc
    · exact fun w hb => all53 w (J_below hJ hb)
    cases hc
  · cases hc
noncomputable def ct34 : Ct := { f := 34, ps := [.v true .ro ls28], rs := [(true, ls28)], shared := false, pre := fun (x : Shd) => pCloneShard x, F := fun (x : Shd) => mCloneShard x, deep := true }
theorem law34 : ∀ x : Shd, pCloneShard x → s_impl_cloneShard x (fun r => r = mCloneShard x) := fun x h => impl_cloneShard_ok x h
theorem all34 (w : World) (hJ : J w) : CtAt Tryz.prog ct34 w :=
  ct_by ok34 (cs34 w hJ) Tryz.func34 (by kernel_rfl) (H := (hint [(3, [.reg 3 71 [.str, .list 122 [.str, .str], .int .i64, .list 122 [.str, .str], .str, .int .i64, .int .i64, .bool] true true, .val 9 (.int .i64)])])) law34 (by kernel_rfl)
noncomputable def E65 : Env := { tt, eqs := [], cts := [ct97, ct34], deep := true }
theorem ok65 : EnvOk Tryz.prog E65 := ⟨ttOk, by kernel_rfl, rfl, mixOk⟩
theorem cs65 (w0 : World) (hJ : J w0) : EnvCts Tryz.prog E65 w0 w0.heap.size := by
  refine ⟨fun c hc => ?_, fun c hc => ?_⟩
  · rcases List.mem_cons.1 hc with rfl | hc
    · exact fun w hb => all97 w (J_below hJ hb)
    rcases List.mem_cons.1 hc with rfl | hc
    · exact fun w hb => all34 w (J_below hJ hb)
    cases hc
  · cases hc
noncomputable def ct65 : Ct := { f := 65, ps := [.v true .ro ls53], rs := [(true, ls53)], shared := false, pre := fun (x : Cch) => pCloneCache x, F := fun (x : Cch) => mCloneCache x, deep := true }
theorem law65 : ∀ x : Cch, pCloneCache x → s_impl_cloneCache x (fun r => r = mCloneCache x) := fun x h => impl_cloneCache_ok x h
theorem all65 (w : World) (hJ : J w) : CtAt Tryz.prog ct65 w :=
  ct_by ok65 (cs65 w hJ) Tryz.func65 (by kernel_rfl) (H := (hint [(3, [.val 13 (.int .i64), .breg 3 0 28 [.int .i64, .int .i64, .list 71 [.str, .list 122 [.str, .str], .int .i64, .list 122 [.str, .str], .str, .int .i64, .int .i64, .bool], .int .i64] true, .breg 3 1 117 [.str, .int .i64]])])) law65 (by kernel_rfl)
noncomputable def E9 : Env := { tt, eqs := [], cts := [ct34, ct35, ct36], deep := true }
theorem ok9 : EnvOk Tryz.prog E9 := ⟨ttOk, by kernel_rfl, rfl, mixOk⟩
theorem cs9 (w0 : World) (hJ : J w0) : EnvCts Tryz.prog E9 w0 w0.heap.size := by
  refine ⟨fun c hc => ?_, fun c hc => ?_⟩
  · rcases List.mem_cons.1 hc with rfl | hc
    · exact fun w hb => all34 w (J_below hJ hb)
    rcases List.mem_cons.1 hc with rfl | hc
    · exact fun w hb => all35 w (J_below hJ hb)
    rcases List.mem_cons.1 hc with rfl | hc
    · exact fun w hb => all36 w (J_below hJ hb)
    cases hc
  · cases hc
noncomputable def ct9 : Ct := { f := 9, ps := [.v true .ro ls28, .v false .ro ls3], rs := [(true, ls28)], shared := false, pre := fun (x : Shd × Int) => pShardTouch x.1 x.2, F := fun (x : Shd × Int) => mShardTouch x.1 x.2, deep := true }
theorem law9 : ∀ x : Shd × Int, pShardTouch x.1 x.2 → s_impl_ShardTouch x.1 x.2 (fun r => r = mShardTouch x.1 x.2) := fun x h => impl_ShardTouch_ok x.1 x.2 h
theorem all9 (w : World) (hJ : J w) : CtAt Tryz.prog ct9 w :=
  ct_by ok9 (cs9 w hJ) Tryz.func9 (by kernel_rfl) (H := (hint [])) law9 (by kernel_rfl)
noncomputable def E27 : Env := { tt, eqs := [], cts := [ct65, ct50, ct51, ct52, ct9], deep := true }
theorem ok27 : EnvOk Tryz.prog E27 := ⟨ttOk, by kernel_rfl, rfl, mixOk⟩
theorem cs27 (w0 : World) (hJ : J w0) : EnvCts Tryz.prog E27 w0 w0.heap.size := by
  refine ⟨fun c hc => ?_, fun c hc => ?_⟩
  · rcases List.mem_cons.1 hc with rfl | hc
    · exact fun w hb => all65 w (J_below hJ hb)
    rcases List.mem_cons.1 hc with rfl | hc
    · exact fun w hb => all50 w (J_below hJ hb)
    rcases List.mem_cons.1 hc with rfl | hc
    · exact fun w hb => all51 w (J_below hJ hb)
    rcases List.mem_cons.1 hc with rfl | hc
    · exact fun w hb => all52 w (J_below hJ hb)
    rcases List.mem_cons.1 hc with rfl | hc
    · exact fun w hb => all9 w (J_below hJ hb)
    cases hc
  · cases hc
noncomputable def ct27 : Ct := { f := 27, ps := [.v true .ro ls53, .v true .ro ls56], rs := [(true, ls53)], shared := false, pre := fun (x : Cch × Req) => pCacheHit x.1 x.2, F := fun (x : Cch × Req) => mCacheHit x.1 x.2, deep := true }
theorem law27 : ∀ x : Cch × Req, pCacheHit x.1 x.2 → s_impl_CacheHit x.1 x.2 (fun r => r = mCacheHit x.1 x.2) := fun x h => impl_CacheHit_ok x.1 x.2 h
theorem all27 (w : World) (hJ : J w) : CtAt Tryz.prog ct27 w :=
  ct_by ok27 (cs27 w hJ) Tryz.func27 (by kernel_rfl) (H := (hint [])) law27 (by kernel_rfl)
noncomputable def E39 : Env := { tt, eqs := [], cts := [ct80, ct62] }
theorem ok39 : EnvOk Tryz.prog E39 := ⟨ttOk, by kernel_rfl, rfl, mixOk⟩
theorem cs39 (w0 : World) (hJ : J w0) : EnvCts Tryz.prog E39 w0 w0.heap.size := by
  refine ⟨fun c hc => ?_, fun c hc => ?_⟩
  · rcases List.mem_cons.1 hc with rfl | hc
    · exact fun w hb => all80 w (J_below hJ hb)
    rcases List.mem_cons.1 hc with rfl | hc
    · exact fun w hb => all62 w (J_below hJ hb)
    cases hc
  · cases hc
noncomputable def ct39 : Ct := { f := 39, ps := [.v false .ro ls26, .v false .ro ls3], rs := [(false, ls3)], shared := false, pre := fun (x : (List Slt) × Int) => pHeldSlotS x.1 x.2, F := fun (x : (List Slt) × Int) => mHeldSlotS x.1 x.2 }
theorem law39 : ∀ x : (List Slt) × Int, pHeldSlotS x.1 x.2 → s_laws_heldSlotS x.1 x.2 (fun r => r = mHeldSlotS x.1 x.2) := fun x h => laws_heldSlotS_ok x.1 x.2 h
theorem all39 (w : World) (hJ : J w) : CtAt Tryz.prog ct39 w :=
  ct_by ok39 (cs39 w hJ) Tryz.func39 (by kernel_rfl) (H := (hint [(2, [.val 1 (.int .i64), .val 5 (.int .i64)])])) law39 (by kernel_rfl)
noncomputable def E66 : Env := { tt, eqs := [], cts := [ct39] }
theorem ok66 : EnvOk Tryz.prog E66 := ⟨ttOk, by kernel_rfl, rfl, mixOk⟩
theorem cs66 (w0 : World) (hJ : J w0) : EnvCts Tryz.prog E66 w0 w0.heap.size := by
  refine ⟨fun c hc => ?_, fun c hc => ?_⟩
  · rcases List.mem_cons.1 hc with rfl | hc
    · exact fun w hb => all39 w (J_below hJ hb)
    cases hc
  · cases hc
noncomputable def ct66 : Ct := { f := 66, ps := [.v false .ro ls50, .v false .ro ls3], rs := [(false, ls3)], shared := false, pre := fun (x : (List Shd) × Int) => pHeldShardS x.1 x.2, F := fun (x : (List Shd) × Int) => mHeldShardS x.1 x.2 }
theorem law66 : ∀ x : (List Shd) × Int, pHeldShardS x.1 x.2 → s_laws_heldShardS x.1 x.2 (fun r => r = mHeldShardS x.1 x.2) := fun x h => laws_heldShardS_ok x.1 x.2 h
theorem all66 (w : World) (hJ : J w) : CtAt Tryz.prog ct66 w :=
  ct_by ok66 (cs66 w hJ) Tryz.func66 (by kernel_rfl) (H := (hint [(2, [.val 1 (.int .i64), .val 5 (.int .i64)])])) law66 (by kernel_rfl)
noncomputable def E67 : Env := { tt, eqs := [], cts := [ct80] }
theorem ok67 : EnvOk Tryz.prog E67 := ⟨ttOk, by kernel_rfl, rfl, mixOk⟩
theorem cs67 (w0 : World) (hJ : J w0) : EnvCts Tryz.prog E67 w0 w0.heap.size := by
  refine ⟨fun c hc => ?_, fun c hc => ?_⟩
  · rcases List.mem_cons.1 hc with rfl | hc
    · exact fun w hb => all80 w (J_below hJ hb)
    cases hc
  · cases hc
noncomputable def ct67 : Ct := { f := 67, ps := [.v false .ro ls51, .v false .ro ls3], rs := [(false, ls3)], shared := false, pre := fun (x : (List Gen) × Int) => pHeldGenRowS x.1 x.2, F := fun (x : (List Gen) × Int) => mHeldGenRowS x.1 x.2 }
theorem law67 : ∀ x : (List Gen) × Int, pHeldGenRowS x.1 x.2 → s_laws_heldGenRowS x.1 x.2 (fun r => r = mHeldGenRowS x.1 x.2) := fun x h => laws_heldGenRowS_ok x.1 x.2 h
theorem all67 (w : World) (hJ : J w) : CtAt Tryz.prog ct67 w :=
  ct_by ok67 (cs67 w hJ) Tryz.func67 (by kernel_rfl) (H := (hint [(2, [.val 1 (.int .i64), .val 5 (.int .i64)])])) law67 (by kernel_rfl)
noncomputable def E28 : Env := { tt, eqs := [], cts := [ct66, ct67] }
theorem ok28 : EnvOk Tryz.prog E28 := ⟨ttOk, by kernel_rfl, rfl, mixOk⟩
theorem cs28 (w0 : World) (hJ : J w0) : EnvCts Tryz.prog E28 w0 w0.heap.size := by
  refine ⟨fun c hc => ?_, fun c hc => ?_⟩
  · rcases List.mem_cons.1 hc with rfl | hc
    · exact fun w hb => all66 w (J_below hJ hb)
    rcases List.mem_cons.1 hc with rfl | hc
    · exact fun w hb => all67 w (J_below hJ hb)
    cases hc
  · cases hc
noncomputable def ct28 : Ct := { f := 28, ps := [.v true .ro ls53, .v false .ro ls3], rs := [(false, ls3)], shared := false, pre := fun (x : Cch × Int) => pHeldCache x.1 x.2, F := fun (x : Cch × Int) => mHeldCache x.1 x.2 }
theorem law28 : ∀ x : Cch × Int, pHeldCache x.1 x.2 → s_laws_heldCache x.1 x.2 (fun r => r = mHeldCache x.1 x.2) := fun x h => laws_heldCache_ok x.1 x.2 h
theorem all28 (w : World) (hJ : J w) : CtAt Tryz.prog ct28 w :=
  ct_by ok28 (cs28 w hJ) Tryz.func28 (by kernel_rfl) (H := (hint [])) law28 (by kernel_rfl)
noncomputable def E5 : Env := { tt, eqs := [], cts := [ct13, ct14, ct16, ct17, ct26, ct27, ct20, ct21, ct28], ms := [ct22, ct23] }
theorem ok5 : EnvOk Tryz.prog E5 := ⟨ttOk, by kernel_rfl, rfl, mixOk⟩
theorem cs5 (w0 : World) (hJ : J w0) : EnvCts Tryz.prog E5 w0 w0.heap.size := by
  refine ⟨fun c hc => ?_, fun c hc => ?_⟩
  · rcases List.mem_cons.1 hc with rfl | hc
    · exact fun w hb => all13 w (J_below hJ hb)
    rcases List.mem_cons.1 hc with rfl | hc
    · exact fun w hb => all14 w (J_below hJ hb)
    rcases List.mem_cons.1 hc with rfl | hc
    · exact fun w hb => all16 w (J_below hJ hb)
    rcases List.mem_cons.1 hc with rfl | hc
    · exact fun w hb => all17 w (J_below hJ hb)
    rcases List.mem_cons.1 hc with rfl | hc
    · exact fun w hb => all26 w (J_below hJ hb)
    rcases List.mem_cons.1 hc with rfl | hc
    · exact fun w hb => all27 w (J_below hJ hb)
    rcases List.mem_cons.1 hc with rfl | hc
    · exact fun w hb => all20 w (J_below hJ hb)
    rcases List.mem_cons.1 hc with rfl | hc
    · exact fun w hb => all21 w (J_below hJ hb)
    rcases List.mem_cons.1 hc with rfl | hc
    · exact fun w hb => all28 w (J_below hJ hb)
    cases hc
  · rcases List.mem_cons.1 hc with rfl | hc
    · exact fun w hb => all22 w0.heap.size w (Jn_of hJ hb)
    rcases List.mem_cons.1 hc with rfl | hc
    · exact fun w hb => all23 w0.heap.size w (Jn_of hJ hb)
    cases hc
noncomputable def ct5 : Ct := boolCt 5 [.v true .ro ls37, .v true .ro ls40] (fun (x : Cch × Req) => p_FnExactCacheHit x.1 x.2)
theorem law5 : ∀ x : Cch × Req, p_FnExactCacheHit x.1 x.2 → s_laws_FnExactCacheHit x.1 x.2 (fun r => r = true) := fun x h => laws_FnExactCacheHit_ok x.1 x.2 h
theorem all5 (w : World) (hJ : J w) : CtAt Tryz.prog ct5 w :=
  ct_by ok5 (cs5 w hJ) Tryz.func5 (by kernel_rfl) (H := (hint [])) law5 (by kernel_rfl)
end Go.Proofs.YtiefookbpgdmoaaGreatDoor.ApT
end
