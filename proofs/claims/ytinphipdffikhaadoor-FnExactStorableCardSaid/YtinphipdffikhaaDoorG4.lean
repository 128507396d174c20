/- A small verified machine for the operations of the given program, and plain laws of what its functions compute; without conditions of its own. Part 5. -/
import Derived.Test.YtinphipdffikhaaDoorG3
import Derived.Test.YtinphipdffikhaaDoorShelf
import Derived.Shelf.Strings.SlTrimAscii
set_option linter.unusedVariables false
set_option linter.unusedSimpArgs false
section
set_option linter.unusedVariables false
namespace Go.Proofs.YtinphipdffikhaaDoor.Ap
open Go Go.Ev Go.Proofs Go.RowKit
abbrev ls3 : List L := [.int .i64]
abbrev ls4 : List L := [.bool]
abbrev ls5 : List L := [.int .u8]
abbrev ls9 : List L := [.str]
abbrev ls22 : List L := [.list 127 [.str, .str, .int .i64, .int .i64, .bool, .bool, .list 95 [.str, .str]]]
abbrev ls24 : List L := [.list 127 [.str, .str, .int .i64, .int .i64, .bool, .bool, .list 95 [.str, .str]]]
abbrev ls27 : List L := [.list 87 [.str, .str, .int .i64, .int .i64, .bool, .bool, .list 96 [.str, .str]]]
abbrev ls29 : List L := [.list 87 [.str, .str, .int .i64, .int .i64, .bool, .bool, .list 96 [.str, .str]]]
abbrev ls33 : List L := [.list 95 [.str, .str]]
abbrev ls35 : List L := [.str, .str, .list 95 [.str, .str], .str]
abbrev ls37 : List L := [.int .i64, .list 95 [.str, .str], .str]
abbrev ls42 : List L := [.list 96 [.str, .str]]
abbrev ls44 : List L := [.str, .str, .list 96 [.str, .str], .str]
abbrev ls47 : List L := [.int .i64, .list 96 [.str, .str], .str]
abbrev ls63 : List L := [.list 145 [.str, .list 95 [.str, .str], .int .i64, .list 95 [.str, .str], .str, .int .i64, .int .i64, .bool]]
abbrev ls65 : List L := [.int .i64, .int .i64, .list 145 [.str, .list 95 [.str, .str], .int .i64, .list 95 [.str, .str], .str, .int .i64, .int .i64, .bool], .int .i64]
abbrev ls68 : List L := [.list 113 [.str, .list 96 [.str, .str], .int .i64, .list 96 [.str, .str], .str, .int .i64, .int .i64, .bool]]
abbrev ls70 : List L := [.int .i64, .int .i64, .list 113 [.str, .list 96 [.str, .str], .int .i64, .list 96 [.str, .str], .str, .int .i64, .int .i64, .bool], .int .i64]
abbrev ls77 : List L := [.str, .bool, .int .i64, .bool, .bool, .str, .str, .list 95 [.str, .str], .str, .int .i64, .list 95 [.str, .str], .str, .int .i64, .int .i64]
abbrev ls81 : List L := [.str, .bool, .int .i64, .bool, .bool, .str, .str, .list 96 [.str, .str], .str, .int .i64, .list 96 [.str, .str], .str, .int .i64, .int .i64]
abbrev ls87 : List L := [.str, .str, .int .i64, .int .i64, .bool, .bool, .list 96 [.str, .str]]
abbrev ls95 : List L := [.str, .str]
abbrev ls96 : List L := [.str, .str]
abbrev ls99 : List L := [.list 9 [.str]]
abbrev ls111 : List L := [.str, .list 96 [.str, .str], .int .i64, .list 96 [.str, .str], .str, .int .i64, .int .i64]
abbrev ls113 : List L := [.str, .list 96 [.str, .str], .int .i64, .list 96 [.str, .str], .str, .int .i64, .int .i64, .bool]
abbrev ls127 : List L := [.str, .str, .int .i64, .int .i64, .bool, .bool, .list 95 [.str, .str]]
abbrev ls132 : List L := [.list 134 [.str, .str]]
abbrev ls134 : List L := [.str, .str]
abbrev ls143 : List L := [.str, .list 95 [.str, .str], .int .i64, .list 95 [.str, .str], .str, .int .i64, .int .i64]
abbrev ls145 : List L := [.str, .list 95 [.str, .str], .int .i64, .list 95 [.str, .str], .str, .int .i64, .int .i64, .bool]
abbrev ls150 : List L := [.list 3 [.int .i64]]
def tt : List (Nat × TI) := [
  (2, ⟨.sc, [.int .i64]⟩),
  (3, ⟨.sc, [.int .i64]⟩),
  (4, ⟨.sc, [.bool]⟩),
  (5, ⟨.sc, [.int .u8]⟩),
  (6, ⟨.sc, [.int .u8]⟩),
  (7, ⟨.st [(0, [.int .i64]), (1, [.int .i64]), (2, [.bool]), (3, [.int .u8])], [.int .i64, .int .i64, .bool, .int .u8]⟩),
  (8, ⟨.st [(0, [.int .i64]), (1, [.int .i64]), (2, [.bool]), (3, [.int .u8])], [.int .i64, .int .i64, .bool, .int .u8]⟩),
  (9, ⟨.sc, [.str]⟩),
  (10, ⟨.sc, [.str]⟩),
  (11, ⟨.sc, [.str]⟩),
  (12, ⟨.sc, [.int .u64]⟩),
  (13, ⟨.st [(0, [.str]), (1, [.int .u64])], [.str, .int .u64]⟩),
  (14, ⟨.st [(0, [.str]), (1, [.int .u64])], [.str, .int .u64]⟩),
  (21, ⟨.sc, [.int .i32]⟩),
  (22, ⟨.sl 127 [.str, .str, .int .i64, .int .i64, .bool, .bool, .list 95 [.str, .str]] 80, [.list 127 [.str, .str, .int .i64, .int .i64, .bool, .bool, .list 95 [.str, .str]]]⟩),
  (23, ⟨.st [(0, [.list 127 [.str, .str, .int .i64, .int .i64, .bool, .bool, .list 95 [.str, .str]]])], [.list 127 [.str, .str, .int .i64, .int .i64, .bool, .bool, .list 95 [.str, .str]]]⟩),
  (24, ⟨.st [(0, [.list 127 [.str, .str, .int .i64, .int .i64, .bool, .bool, .list 95 [.str, .str]]])], [.list 127 [.str, .str, .int .i64, .int .i64, .bool, .bool, .list 95 [.str, .str]]]⟩),
  (27, ⟨.sl 87 [.str, .str, .int .i64, .int .i64, .bool, .bool, .list 96 [.str, .str]] 80, [.list 87 [.str, .str, .int .i64, .int .i64, .bool, .bool, .list 96 [.str, .str]]]⟩),
  (28, ⟨.st [(0, [.list 87 [.str, .str, .int .i64, .int .i64, .bool, .bool, .list 96 [.str, .str]]])], [.list 87 [.str, .str, .int .i64, .int .i64, .bool, .bool, .list 96 [.str, .str]]]⟩),
  (29, ⟨.st [(0, [.list 87 [.str, .str, .int .i64, .int .i64, .bool, .bool, .list 96 [.str, .str]]])], [.list 87 [.str, .str, .int .i64, .int .i64, .bool, .bool, .list 96 [.str, .str]]]⟩),
  (33, ⟨.sl 95 [.str, .str] 32, [.list 95 [.str, .str]]⟩),
  (34, ⟨.st [(0, [.str]), (1, [.str]), (2, [.list 95 [.str, .str]]), (3, [.str])], [.str, .str, .list 95 [.str, .str], .str]⟩),
  (35, ⟨.st [(0, [.str]), (1, [.str]), (2, [.list 95 [.str, .str]]), (3, [.str])], [.str, .str, .list 95 [.str, .str], .str]⟩),
  (36, ⟨.st [(0, [.int .i64]), (1, [.list 95 [.str, .str]]), (2, [.str])], [.int .i64, .list 95 [.str, .str], .str]⟩),
  (37, ⟨.st [(0, [.int .i64]), (1, [.list 95 [.str, .str]]), (2, [.str])], [.int .i64, .list 95 [.str, .str], .str]⟩),
  (42, ⟨.sl 96 [.str, .str] 32, [.list 96 [.str, .str]]⟩),
  (43, ⟨.st [(0, [.str]), (1, [.str]), (2, [.list 96 [.str, .str]]), (3, [.str])], [.str, .str, .list 96 [.str, .str], .str]⟩),
  (44, ⟨.st [(0, [.str]), (1, [.str]), (2, [.list 96 [.str, .str]]), (3, [.str])], [.str, .str, .list 96 [.str, .str], .str]⟩),
  (46, ⟨.st [(0, [.int .i64]), (1, [.list 96 [.str, .str]]), (2, [.str])], [.int .i64, .list 96 [.str, .str], .str]⟩),
  (47, ⟨.st [(0, [.int .i64]), (1, [.list 96 [.str, .str]]), (2, [.str])], [.int .i64, .list 96 [.str, .str], .str]⟩),
  (63, ⟨.sl 145 [.str, .list 95 [.str, .str], .int .i64, .list 95 [.str, .str], .str, .int .i64, .int .i64, .bool] 112, [.list 145 [.str, .list 95 [.str, .str], .int .i64, .list 95 [.str, .str], .str, .int .i64, .int .i64, .bool]]⟩),
  (64, ⟨.st [(0, [.int .i64]), (1, [.int .i64]), (2, [.list 145 [.str, .list 95 [.str, .str], .int .i64, .list 95 [.str, .str], .str, .int .i64, .int .i64, .bool]]), (3, [.int .i64])], [.int .i64, .int .i64, .list 145 [.str, .list 95 [.str, .str], .int .i64, .list 95 [.str, .str], .str, .int .i64, .int .i64, .bool], .int .i64]⟩),
  (65, ⟨.st [(0, [.int .i64]), (1, [.int .i64]), (2, [.list 145 [.str, .list 95 [.str, .str], .int .i64, .list 95 [.str, .str], .str, .int .i64, .int .i64, .bool]]), (3, [.int .i64])], [.int .i64, .int .i64, .list 145 [.str, .list 95 [.str, .str], .int .i64, .list 95 [.str, .str], .str, .int .i64, .int .i64, .bool], .int .i64]⟩),
  (68, ⟨.sl 113 [.str, .list 96 [.str, .str], .int .i64, .list 96 [.str, .str], .str, .int .i64, .int .i64, .bool] 112, [.list 113 [.str, .list 96 [.str, .str], .int .i64, .list 96 [.str, .str], .str, .int .i64, .int .i64, .bool]]⟩),
  (69, ⟨.st [(0, [.int .i64]), (1, [.int .i64]), (2, [.list 113 [.str, .list 96 [.str, .str], .int .i64, .list 96 [.str, .str], .str, .int .i64, .int .i64, .bool]]), (3, [.int .i64])], [.int .i64, .int .i64, .list 113 [.str, .list 96 [.str, .str], .int .i64, .list 96 [.str, .str], .str, .int .i64, .int .i64, .bool], .int .i64]⟩),
  (70, ⟨.st [(0, [.int .i64]), (1, [.int .i64]), (2, [.list 113 [.str, .list 96 [.str, .str], .int .i64, .list 96 [.str, .str], .str, .int .i64, .int .i64, .bool]]), (3, [.int .i64])], [.int .i64, .int .i64, .list 113 [.str, .list 96 [.str, .str], .int .i64, .list 96 [.str, .str], .str, .int .i64, .int .i64, .bool], .int .i64]⟩),
  (76, ⟨.st [(0, [.str]), (1, [.bool]), (2, [.int .i64]), (3, [.bool]), (4, [.bool]), (5, [.str, .str, .list 95 [.str, .str], .str]), (9, [.int .i64, .list 95 [.str, .str], .str]), (12, [.int .i64]), (13, [.int .i64])], [.str, .bool, .int .i64, .bool, .bool, .str, .str, .list 95 [.str, .str], .str, .int .i64, .list 95 [.str, .str], .str, .int .i64, .int .i64]⟩),
  (77, ⟨.st [(0, [.str]), (1, [.bool]), (2, [.int .i64]), (3, [.bool]), (4, [.bool]), (5, [.str, .str, .list 95 [.str, .str], .str]), (9, [.int .i64, .list 95 [.str, .str], .str]), (12, [.int .i64]), (13, [.int .i64])], [.str, .bool, .int .i64, .bool, .bool, .str, .str, .list 95 [.str, .str], .str, .int .i64, .list 95 [.str, .str], .str, .int .i64, .int .i64]⟩),
  (80, ⟨.st [(0, [.str]), (1, [.bool]), (2, [.int .i64]), (3, [.bool]), (4, [.bool]), (5, [.str, .str, .list 96 [.str, .str], .str]), (9, [.int .i64, .list 96 [.str, .str], .str]), (12, [.int .i64]), (13, [.int .i64])], [.str, .bool, .int .i64, .bool, .bool, .str, .str, .list 96 [.str, .str], .str, .int .i64, .list 96 [.str, .str], .str, .int .i64, .int .i64]⟩),
  (81, ⟨.st [(0, [.str]), (1, [.bool]), (2, [.int .i64]), (3, [.bool]), (4, [.bool]), (5, [.str, .str, .list 96 [.str, .str], .str]), (9, [.int .i64, .list 96 [.str, .str], .str]), (12, [.int .i64]), (13, [.int .i64])], [.str, .bool, .int .i64, .bool, .bool, .str, .str, .list 96 [.str, .str], .str, .int .i64, .list 96 [.str, .str], .str, .int .i64, .int .i64]⟩),
  (86, ⟨.st [(0, [.str]), (1, [.str]), (2, [.int .i64]), (3, [.int .i64]), (4, [.bool]), (5, [.bool]), (6, [.list 96 [.str, .str]])], [.str, .str, .int .i64, .int .i64, .bool, .bool, .list 96 [.str, .str]]⟩),
  (87, ⟨.st [(0, [.str]), (1, [.str]), (2, [.int .i64]), (3, [.int .i64]), (4, [.bool]), (5, [.bool]), (6, [.list 96 [.str, .str]])], [.str, .str, .int .i64, .int .i64, .bool, .bool, .list 96 [.str, .str]]⟩),
  (94, ⟨.st [(0, [.str]), (1, [.str])], [.str, .str]⟩),
  (95, ⟨.st [(0, [.str]), (1, [.str])], [.str, .str]⟩),
  (96, ⟨.st [(0, [.str]), (1, [.str])], [.str, .str]⟩),
  (99, ⟨.sl 9 [.str] 16, [.list 9 [.str]]⟩),
  (110, ⟨.st [(0, [.str]), (1, [.list 96 [.str, .str]]), (2, [.int .i64, .list 96 [.str, .str], .str]), (5, [.int .i64]), (6, [.int .i64])], [.str, .list 96 [.str, .str], .int .i64, .list 96 [.str, .str], .str, .int .i64, .int .i64]⟩),
  (111, ⟨.st [(0, [.str]), (1, [.list 96 [.str, .str]]), (2, [.int .i64, .list 96 [.str, .str], .str]), (5, [.int .i64]), (6, [.int .i64])], [.str, .list 96 [.str, .str], .int .i64, .list 96 [.str, .str], .str, .int .i64, .int .i64]⟩),
  (112, ⟨.st [(0, [.str, .list 96 [.str, .str], .int .i64, .list 96 [.str, .str], .str, .int .i64, .int .i64]), (7, [.bool])], [.str, .list 96 [.str, .str], .int .i64, .list 96 [.str, .str], .str, .int .i64, .int .i64, .bool]⟩),
  (113, ⟨.st [(0, [.str, .list 96 [.str, .str], .int .i64, .list 96 [.str, .str], .str, .int .i64, .int .i64]), (7, [.bool])], [.str, .list 96 [.str, .str], .int .i64, .list 96 [.str, .str], .str, .int .i64, .int .i64, .bool]⟩),
  (126, ⟨.st [(0, [.str]), (1, [.str]), (2, [.int .i64]), (3, [.int .i64]), (4, [.bool]), (5, [.bool]), (6, [.list 95 [.str, .str]])], [.str, .str, .int .i64, .int .i64, .bool, .bool, .list 95 [.str, .str]]⟩),
  (127, ⟨.st [(0, [.str]), (1, [.str]), (2, [.int .i64]), (3, [.int .i64]), (4, [.bool]), (5, [.bool]), (6, [.list 95 [.str, .str]])], [.str, .str, .int .i64, .int .i64, .bool, .bool, .list 95 [.str, .str]]⟩),
  (131, ⟨.sl 5 [.int .u8] 1, [.list 5 [.int .u8]]⟩),
  (132, ⟨.sl 134 [.str, .str] 32, [.list 134 [.str, .str]]⟩),
  (134, ⟨.st [(0, [.str]), (1, [.str])], [.str, .str]⟩),
  (142, ⟨.st [(0, [.str]), (1, [.list 95 [.str, .str]]), (2, [.int .i64, .list 95 [.str, .str], .str]), (5, [.int .i64]), (6, [.int .i64])], [.str, .list 95 [.str, .str], .int .i64, .list 95 [.str, .str], .str, .int .i64, .int .i64]⟩),
  (143, ⟨.st [(0, [.str]), (1, [.list 95 [.str, .str]]), (2, [.int .i64, .list 95 [.str, .str], .str]), (5, [.int .i64]), (6, [.int .i64])], [.str, .list 95 [.str, .str], .int .i64, .list 95 [.str, .str], .str, .int .i64, .int .i64]⟩),
  (144, ⟨.st [(0, [.str, .list 95 [.str, .str], .int .i64, .list 95 [.str, .str], .str, .int .i64, .int .i64]), (7, [.bool])], [.str, .list 95 [.str, .str], .int .i64, .list 95 [.str, .str], .str, .int .i64, .int .i64, .bool]⟩),
  (145, ⟨.st [(0, [.str, .list 95 [.str, .str], .int .i64, .list 95 [.str, .str], .str, .int .i64, .int .i64]), (7, [.bool])], [.str, .list 95 [.str, .str], .int .i64, .list 95 [.str, .str], .str, .int .i64, .int .i64, .bool]⟩),
  (150, ⟨.sl 3 [.int .i64] 8, [.list 3 [.int .i64]]⟩),
  (171, ⟨.sc, [.int .i64]⟩),
  (188, ⟨.sc, [.int .u64]⟩),
  (191, ⟨.sc, [.int .u64]⟩),
  (202, ⟨.st [(0, [.str])], [.str]⟩),
  (203, ⟨.st [(0, [.str])], [.str]⟩),
  (210, ⟨.sc, [.int .u32]⟩),
  (218, ⟨.st [(0, [.int .u8]), (1, [.int .u8])], [.int .u8, .int .u8]⟩),
  (219, ⟨.st [(0, [.int .u8]), (1, [.int .u8])], [.int .u8, .int .u8]⟩),
  (231, ⟨.sc, [.int .u8]⟩),
  (232, ⟨.sc, [.int .u8]⟩),
  (234, ⟨.sc, [.int .i32]⟩),
  (235, ⟨.sc, [.int .i32]⟩)]
theorem ttOk : ttB Tryd.prog tt = true := by kernel_rfl
theorem mixOk : Tryd.prog.follows .mixedOrders = true := by kernel_rfl
def J (w : World) : Prop := (∃ m, w.cell? ⟨2, 0, none⟩ = some (.int .i64 m)) ∧ True
theorem J_below {w w' : World} (h : J w) (hb : Below w.heap.size w w') : J w' := by
  obtain ⟨⟨m, hm⟩, _⟩ := h
  have hlt : 2 < w.heap.size := cell_lt hm
  exact ⟨⟨m, (hb.cell hlt).trans hm⟩, trivial⟩
noncomputable def E61 : Env := { tt, eqs := [], cts := [] }
theorem ok61 : EnvOk Tryd.prog E61 := ⟨ttOk, by kernel_rfl, rfl, mixOk⟩
theorem cs61 (w0 : World) (hJ : J w0) : EnvCts Tryd.prog E61 w0 := by
  intro c hc
  cases hc
noncomputable def ct61 : Ct := { f := 61, ps := [.v true .ro ls95, .v false .ro [.int .i64]], rs := [(false, [.int .i64])], shared := false, pre := fun (q : Fld × Int) => pSz q.1 q.2, F := fun (q : Fld × Int) => szF q.1 q.2 }
def st61 : List (SzStep Fld) := [.str (fun x : Fld => x.1), .str (fun x : Fld => x.2)]
theorem c61 (x : Fld) : szSum x st61 = cz x := by
  simp only [szSum, st61, cz_pair, cz_int, cz_bool, cz_str]
  all_goals omega
theorem w61 (x : Fld) (h : wd x) : szFine x st61 := by
  first | simp only [wd_pair] at h | skip
  simp only [szFine, st61, wd_pair, wf_wd]
  simp only [h, and_self]
theorem law61 : ∀ q : Fld × Int, pSz q.1 q.2 → szSt q.1 st61 q.2 (fun r => r = szF q.1 q.2) := fun q hq => szSt_holds q.1 st61 q.2 _ (w61 q.1 hq.1) hq.2.1 hq.2.2 (c61 q.1)
theorem all61 (w : World) (hJ : J w) : CtAt Tryd.prog ct61 w :=
  ct_by ok61 (cs61 w hJ) Tryd.func61 (by kernel_rfl) (H := (hint [])) law61 (by kernel_rfl)
noncomputable def E19 : Env := { tt, eqs := [], cts := [ct61] }
theorem ok19 : EnvOk Tryd.prog E19 := ⟨ttOk, by kernel_rfl, rfl, mixOk⟩
theorem cs19 (w0 : World) (hJ : J w0) : EnvCts Tryd.prog E19 w0 := by
  intro c hc
  rcases List.mem_cons.1 hc with rfl | hc
  · exact fun w hb => all61 w (J_below hJ hb)
  cases hc
noncomputable def ct19 : Ct := { f := 19, ps := [.v false .ro ls33, .v false .ro [.int .i64]], rs := [(false, [.int .i64])], shared := false, pre := fun (q : (List Fld) × Int) => pSz q.1 q.2, F := fun (q : (List Fld) × Int) => szF q.1 q.2 }
theorem law19 : ∀ q : (List Fld) × Int, pSz q.1 q.2 → szS (α := Fld) Dft.dft (fun y k => pSz y k) (fun y k => szF y k) q.1 q.2 (fun r => r = szF q.1 q.2) := fun q hq => szS_holds (α := Fld) Dft.dft cz wd q.1 q.2 hq.1.1 hq.1.2 hq.2.1 hq.2.2
theorem all19 (w : World) (hJ : J w) : CtAt Tryd.prog ct19 w :=
  ct_by ok19 (cs19 w hJ) Tryd.func19 (by kernel_rfl) (H := (hint [(5, [.val 1 (.int .i64), .val 5 (.int .i64)])])) law19 (by kernel_rfl)
noncomputable def E102 : Env := { tt, eqs := [], cts := [ct19] }
theorem ok102 : EnvOk Tryd.prog E102 := ⟨ttOk, by kernel_rfl, rfl, mixOk⟩
theorem cs102 (w0 : World) (hJ : J w0) : EnvCts Tryd.prog E102 w0 := by
  intro c hc
  rcases List.mem_cons.1 hc with rfl | hc
  · exact fun w hb => all19 w (J_below hJ hb)
  cases hc
noncomputable def ct102 : Ct := { f := 102, ps := [.v true .ro ls127, .v false .ro [.int .i64]], rs := [(false, [.int .i64])], shared := false, pre := fun (q : Rsc × Int) => pSz q.1 q.2, F := fun (q : Rsc × Int) => szF q.1 q.2 }
def st102 : List (SzStep Rsc) := [.str (fun x : Rsc => x.1), .str (fun x : Rsc => x.2.1), .call (fun x : Rsc => wd (x.2.2.2.2.2.2 : (List Fld))) (fun x : Rsc => cz (x.2.2.2.2.2.2 : (List Fld)))]
theorem c102 (x : Rsc) : szSum x st102 = cz x := by
  simp only [szSum, st102, cz_pair, cz_int, cz_bool, cz_str]
  all_goals omega
theorem w102 (x : Rsc) (h : wd x) : szFine x st102 := by
  first | simp only [wd_pair] at h | skip
  simp only [szFine, st102, wd_pair, wf_wd]
  simp only [h, and_self]
theorem law102 : ∀ q : Rsc × Int, pSz q.1 q.2 → szSt q.1 st102 q.2 (fun r => r = szF q.1 q.2) := fun q hq => szSt_holds q.1 st102 q.2 _ (w102 q.1 hq.1) hq.2.1 hq.2.2 (c102 q.1)
theorem all102 (w : World) (hJ : J w) : CtAt Tryd.prog ct102 w :=
  ct_by ok102 (cs102 w hJ) Tryd.func102 (by kernel_rfl) (H := (hint [])) law102 (by kernel_rfl)
noncomputable def E52 : Env := { tt, eqs := [], cts := [ct102] }
theorem ok52 : EnvOk Tryd.prog E52 := ⟨ttOk, by kernel_rfl, rfl, mixOk⟩
theorem cs52 (w0 : World) (hJ : J w0) : EnvCts Tryd.prog E52 w0 := by
  intro c hc
  rcases List.mem_cons.1 hc with rfl | hc
  · exact fun w hb => all102 w (J_below hJ hb)
  cases hc
noncomputable def ct52 : Ct := { f := 52, ps := [.v false .ro ls22, .v false .ro [.int .i64]], rs := [(false, [.int .i64])], shared := false, pre := fun (q : (List Rsc) × Int) => pSz q.1 q.2, F := fun (q : (List Rsc) × Int) => szF q.1 q.2 }
theorem law52 : ∀ q : (List Rsc) × Int, pSz q.1 q.2 → szS (α := Rsc) Dft.dft (fun y k => pSz y k) (fun y k => szF y k) q.1 q.2 (fun r => r = szF q.1 q.2) := fun q hq => szS_holds (α := Rsc) Dft.dft cz wd q.1 q.2 hq.1.1 hq.1.2 hq.2.1 hq.2.2
theorem all52 (w : World) (hJ : J w) : CtAt Tryd.prog ct52 w :=
  ct_by ok52 (cs52 w hJ) Tryd.func52 (by kernel_rfl) (H := (hint [(5, [.val 1 (.int .i64), .val 5 (.int .i64)])])) law52 (by kernel_rfl)
noncomputable def E12 : Env := { tt, eqs := [], cts := [ct52] }
theorem ok12 : EnvOk Tryd.prog E12 := ⟨ttOk, by kernel_rfl, rfl, mixOk⟩
theorem cs12 (w0 : World) (hJ : J w0) : EnvCts Tryd.prog E12 w0 := by
  intro c hc
  rcases List.mem_cons.1 hc with rfl | hc
  · exact fun w hb => all52 w (J_below hJ hb)
  cases hc
noncomputable def ct12 : Ct := { f := 12, ps := [.v true .ro ls24, .v false .ro [.int .i64]], rs := [(false, [.int .i64])], shared := false, pre := fun (q : (List Rsc) × Int) => pSz q.1 q.2, F := fun (q : (List Rsc) × Int) => szF q.1 q.2 }
def st12 : List (SzStep (List Rsc)) := [.call (fun x : (List Rsc) => wd (x : (List Rsc))) (fun x : (List Rsc) => cz (x : (List Rsc)))]
theorem c12 (x : (List Rsc)) : szSum x st12 = cz x := by
  simp only [szSum, st12, cz_pair, cz_int, cz_bool, cz_str]
  all_goals omega
theorem w12 (x : (List Rsc)) (h : wd x) : szFine x st12 := by
  first | simp only [wd_pair] at h | skip
  simp only [szFine, st12, wd_pair, wf_wd]
  simp only [h, and_self]
theorem law12 : ∀ q : (List Rsc) × Int, pSz q.1 q.2 → szSt q.1 st12 q.2 (fun r => r = szF q.1 q.2) := fun q hq => szSt_holds q.1 st12 q.2 _ (w12 q.1 hq.1) hq.2.1 hq.2.2 (c12 q.1)
theorem all12 (w : World) (hJ : J w) : CtAt Tryd.prog ct12 w :=
  ct_by ok12 (cs12 w hJ) Tryd.func12 (by kernel_rfl) (H := (hint [])) law12 (by kernel_rfl)
noncomputable def E63 : Env := { tt, eqs := [], cts := [] }
theorem ok63 : EnvOk Tryd.prog E63 := ⟨ttOk, by kernel_rfl, rfl, mixOk⟩
theorem cs63 (w0 : World) (hJ : J w0) : EnvCts Tryd.prog E63 w0 := by
  intro c hc
  cases hc
noncomputable def ct63 : Ct := { f := 63, ps := [.v true .ro ls95], rs := [(true, ls96)], shared := false, pre := fun (x : Fld) => pTo x, F := fun (x : Fld) => toF x }
theorem law63 : ∀ q : Fld, pTo q → conj [] (q = toF q) := fun q hq => rfl
theorem all63 (w : World) (hJ : J w) : CtAt Tryd.prog ct63 w :=
  ct_by ok63 (cs63 w hJ) Tryd.func63 (by kernel_rfl) (H := (hint [])) law63 (by kernel_rfl)
noncomputable def E23 : Env := { tt, eqs := [], cts := [ct63] }
theorem ok23 : EnvOk Tryd.prog E23 := ⟨ttOk, by kernel_rfl, rfl, mixOk⟩
theorem cs23 (w0 : World) (hJ : J w0) : EnvCts Tryd.prog E23 w0 := by
  intro c hc
  rcases List.mem_cons.1 hc with rfl | hc
  · exact fun w hb => all63 w (J_below hJ hb)
  cases hc
noncomputable def ct23 : Ct := { f := 23, ps := [.v false .ro ls33], rs := [(false, ls42)], shared := false, pre := fun (x : (List Fld)) => pTo x, F := fun (x : (List Fld)) => toF x }
theorem law23 : ∀ q : (List Fld), pTo q → toS (α := Fld) Dft.dft 32 (fun y => pTo y) q (fun r => r = toF q) := fun q hq => toS_holds (α := Fld) Dft.dft 32 (fun y => pTo y) q (md_len' hq) (by omega) (fun i a h => md_mem hq (List.mem_of_getElem? h)) rfl
theorem all23 (w : World) (hJ : J w) : CtAt Tryd.prog ct23 w :=
  ct_by ok23 (cs23 w hJ) Tryd.func23 (by kernel_rfl) (H := (hint [(3, [.reg 3 96 ls96 true, .val 4 (.int .i64)])])) law23 (by kernel_rfl)
noncomputable def E104 : Env := { tt, eqs := [], cts := [ct23] }
theorem ok104 : EnvOk Tryd.prog E104 := ⟨ttOk, by kernel_rfl, rfl, mixOk⟩
theorem cs104 (w0 : World) (hJ : J w0) : EnvCts Tryd.prog E104 w0 := by
  intro c hc
  rcases List.mem_cons.1 hc with rfl | hc
  · exact fun w hb => all23 w (J_below hJ hb)
  cases hc
noncomputable def ct104 : Ct := { f := 104, ps := [.v true .ro ls127], rs := [(true, ls87)], shared := false, pre := fun (x : Rsc) => pTo x, F := fun (x : Rsc) => toF x }
theorem law104 : ∀ q : Rsc, pTo q → conj [pTo (q.2.2.2.2.2.2 : (List Fld))] (q = toF q) := fun q hq => ⟨(czt (czt (czt (czt (czt (czt hq)))))), rfl⟩
theorem all104 (w : World) (hJ : J w) : CtAt Tryd.prog ct104 w :=
  ct_by ok104 (cs104 w hJ) Tryd.func104 (by kernel_rfl) (H := (hint [])) law104 (by kernel_rfl)
noncomputable def E56 : Env := { tt, eqs := [], cts := [ct104] }
theorem ok56 : EnvOk Tryd.prog E56 := ⟨ttOk, by kernel_rfl, rfl, mixOk⟩
theorem cs56 (w0 : World) (hJ : J w0) : EnvCts Tryd.prog E56 w0 := by
  intro c hc
  rcases List.mem_cons.1 hc with rfl | hc
  · exact fun w hb => all104 w (J_below hJ hb)
  cases hc
noncomputable def ct56 : Ct := { f := 56, ps := [.v false .ro ls22], rs := [(false, ls27)], shared := false, pre := fun (x : (List Rsc)) => pTo x, F := fun (x : (List Rsc)) => toF x }
theorem law56 : ∀ q : (List Rsc), pTo q → toS (α := Rsc) Dft.dft 80 (fun y => pTo y) q (fun r => r = toF q) := fun q hq => toS_holds (α := Rsc) Dft.dft 80 (fun y => pTo y) q (md_len' hq) (by omega) (fun i a h => md_mem hq (List.mem_of_getElem? h)) rfl
theorem all56 (w : World) (hJ : J w) : CtAt Tryd.prog ct56 w :=
  ct_by ok56 (cs56 w hJ) Tryd.func56 (by kernel_rfl) (H := (hint [(3, [.reg 3 87 ls87 true, .val 4 (.int .i64)])])) law56 (by kernel_rfl)
noncomputable def E14 : Env := { tt, eqs := [], cts := [ct56] }
theorem ok14 : EnvOk Tryd.prog E14 := ⟨ttOk, by kernel_rfl, rfl, mixOk⟩
theorem cs14 (w0 : World) (hJ : J w0) : EnvCts Tryd.prog E14 w0 := by
  intro c hc
  rcases List.mem_cons.1 hc with rfl | hc
  · exact fun w hb => all56 w (J_below hJ hb)
  cases hc
noncomputable def ct14 : Ct := { f := 14, ps := [.v true .ro ls24], rs := [(true, ls29)], shared := false, pre := fun (x : (List Rsc)) => pTo x, F := fun (x : (List Rsc)) => toF x }
theorem law14 : ∀ q : (List Rsc), pTo q → conj [pTo (q : (List Rsc))] (q = toF q) := fun q hq => ⟨hq, rfl⟩
theorem all14 (w : World) (hJ : J w) : CtAt Tryd.prog ct14 w :=
  ct_by ok14 (cs14 w hJ) Tryd.func14 (by kernel_rfl) (H := (hint [])) law14 (by kernel_rfl)
noncomputable def E54 : Env := { tt, eqs := [], cts := [] }
theorem ok54 : EnvOk Tryd.prog E54 := ⟨ttOk, by kernel_rfl, rfl, mixOk⟩
theorem cs54 (w0 : World) (hJ : J w0) : EnvCts Tryd.prog E54 w0 := by
  intro c hc
  cases hc
noncomputable def ct54 : Ct := { f := 54, ps := [.v false .ro ls3, .v false .ro ls3, .v false .ro ls3], rs := [(false, ls4)], shared := false, pre := fun (x : Int × Int × Int) => pIn x.1 x.2.1 x.2.2, F := fun (x : Int × Int × Int) => mIn x.1 x.2.1 x.2.2 }
theorem law54 : ∀ x : Int × Int × Int, pIn x.1 x.2.1 x.2.2 → s_spec_l1In x.1 x.2.1 x.2.2 (fun r => r = mIn x.1 x.2.1 x.2.2) := fun x _ => spec_l1In_ok x.1 x.2.1 x.2.2
theorem all54 (w : World) (hJ : J w) : CtAt Tryd.prog ct54 w :=
  ct_by ok54 (cs54 w hJ) Tryd.func54 (by kernel_rfl) (H := (hint [])) law54 (by kernel_rfl)
noncomputable def E53 : Env := { tt, eqs := [], cts := [ct54] }
theorem ok53 : EnvOk Tryd.prog E53 := ⟨ttOk, by kernel_rfl, rfl, mixOk⟩
theorem cs53 (w0 : World) (hJ : J w0) : EnvCts Tryd.prog E53 w0 := by
  intro c hc
  rcases List.mem_cons.1 hc with rfl | hc
  · exact fun w hb => all54 w (J_below hJ hb)
  cases hc
noncomputable def ct53 : Ct := { f := 53, ps := [.v false .ro ls9], rs := [(false, ls4)], shared := false, pre := fun (x : S) => pUriOk x, F := fun (x : S) => mUriOk x }
theorem law53 : ∀ x : S, pUriOk x → s_spec_UriOk x (fun r => r = mUriOk x) := fun x h => spec_UriOk_ok x h
theorem all53 (w : World) (hJ : J w) : CtAt Tryd.prog ct53 w :=
  ct_by ok53 (cs53 w hJ) Tryd.func53 (by kernel_rfl) (H := (hint [(2, [.val 3 (.int .i64)])])) law53 (by kernel_rfl)
noncomputable def E67 : Env := { tt, eqs := [], cts := [] }
theorem ok67 : EnvOk Tryd.prog E67 := ⟨ttOk, by kernel_rfl, rfl, mixOk⟩
theorem cs67 (w0 : World) (hJ : J w0) : EnvCts Tryd.prog E67 w0 := by
  intro c hc
  cases hc
noncomputable def ct67 : Ct := { f := 67, ps := [.v false .ro ls42, .v false .ro ls9], rs := [(false, ls9), (false, ls4)], shared := false, pre := fun (x : (List Fld) × S) => pFieldGet x.1 x.2, F := fun (x : (List Fld) × S) => mFieldGet x.1 x.2 }
theorem law67 : ∀ x : (List Fld) × S, pFieldGet x.1 x.2 → s_spec_FieldGet x.1 x.2 (fun r => r = mFieldGet x.1 x.2) := fun x h => spec_FieldGet_ok x.1 x.2 h
theorem all67 (w : World) (hJ : J w) : CtAt Tryd.prog ct67 w :=
  ct_by ok67 (cs67 w hJ) Tryd.func67 (by kernel_rfl) (H := (hint [(4, [.val 6 (.str), .val 7 (.bool), .val 8 (.int .i64)])])) law67 (by kernel_rfl)
noncomputable def E154 : Env := { tt, eqs := [], cts := [] }
theorem ok154 : EnvOk Tryd.prog E154 := ⟨ttOk, by kernel_rfl, rfl, mixOk⟩
theorem cs154 (w0 : World) (hJ : J w0) : EnvCts Tryd.prog E154 w0 := by
  intro c hc
  cases hc
noncomputable def ct154 : Ct := { f := 154, ps := [.v false .ro ls5], rs := [(false, ls4)], shared := false, pre := fun (x : Int) => pToken x, F := fun (x : Int) => mToken x }
theorem law154 : ∀ x : Int, pToken x → s_spec_l2Token x (fun r => r = mToken x) := fun x _ => spec_l2Token_ok x
theorem all154 (w : World) (hJ : J w) : CtAt Tryd.prog ct154 w :=
  ct_by ok154 (cs154 w hJ) Tryd.func154 (by kernel_rfl) (H := (hint [])) law154 (by kernel_rfl)
noncomputable def E136 : Env := { tt, eqs := [], cts := [ct154] }
theorem ok136 : EnvOk Tryd.prog E136 := ⟨ttOk, by kernel_rfl, rfl, mixOk⟩
theorem cs136 (w0 : World) (hJ : J w0) : EnvCts Tryd.prog E136 w0 := by
  intro c hc
  rcases List.mem_cons.1 hc with rfl | hc
  · exact fun w hb => all154 w (J_below hJ hb)
  cases hc
noncomputable def ct136 : Ct := { f := 136, ps := [.v false .ro ls9], rs := [(false, ls4)], shared := false, pre := fun (x : S) => pIsTokenText x, F := fun (x : S) => mIsTokenText x }
theorem law136 : ∀ x : S, pIsTokenText x → s_spec_IsTokenText x (fun r => r = mIsTokenText x) := fun x h => spec_IsTokenText_ok x h
theorem all136 (w : World) (hJ : J w) : CtAt Tryd.prog ct136 w :=
  ct_by ok136 (cs136 w hJ) Tryd.func136 (by kernel_rfl) (H := (hint [(2, [.val 3 (.int .i64)])])) law136 (by kernel_rfl)
noncomputable def E109 : Env := { tt, eqs := [], cts := [] }
theorem ok109 : EnvOk Tryd.prog E109 := ⟨ttOk, by kernel_rfl, rfl, mixOk⟩
theorem cs109 (w0 : World) (hJ : J w0) : EnvCts Tryd.prog E109 w0 := by
  intro c hc
  cases hc
noncomputable def ct109 : Ct := { f := 109, ps := [.v false .ro ls9], rs := [(false, ls9)], shared := false, pre := fun (x : S) => pLower x, F := fun (x : S) => mLower x }
theorem law109 : ∀ x : S, pLower x → s_spec_Lower x (fun r => r = mLower x) := fun x h => spec_Lower_ok x h
theorem all109 (w : World) (hJ : J w) : CtAt Tryd.prog ct109 w :=
  ct_by ok109 (cs109 w hJ) Tryd.func109 (by kernel_rfl) (H := (hint [(3, [.val 4 (.int .i64), .reg 3 5 [.int .u8] false])])) law109 (by kernel_rfl)
noncomputable def E147 : Env := { tt, eqs := [], cts := [] }
theorem ok147 : EnvOk Tryd.prog E147 := ⟨ttOk, by kernel_rfl, rfl, mixOk⟩
theorem cs147 (w0 : World) (hJ : J w0) : EnvCts Tryd.prog E147 w0 := by
  intro c hc
  cases hc
noncomputable def ct147 : Ct := { f := 147, ps := [.v false .ro ls5], rs := [(false, ls4)], shared := false, pre := fun (x : Int) => pBlank x, F := fun (x : Int) => mBlank x }
theorem law147 : ∀ x : Int, pBlank x → s_spec_l2Blank x (fun r => r = mBlank x) := fun x _ => spec_l2Blank_ok x
theorem all147 (w : World) (hJ : J w) : CtAt Tryd.prog ct147 w :=
  ct_by ok147 (cs147 w hJ) Tryd.func147 (by kernel_rfl) (H := (hint [])) law147 (by kernel_rfl)
noncomputable def E123 : Env := { tt, eqs := [], cts := [ct147] }
theorem ok123 : EnvOk Tryd.prog E123 := ⟨ttOk, by kernel_rfl, rfl, mixOk⟩
theorem cs123 (w0 : World) (hJ : J w0) : EnvCts Tryd.prog E123 w0 := by
  intro c hc
  rcases List.mem_cons.1 hc with rfl | hc
  · exact fun w hb => all147 w (J_below hJ hb)
  cases hc
noncomputable def ct123 : Ct := { f := 123, ps := [.v false .ro ls9], rs := [(false, ls9)], shared := false, pre := fun (x : S) => pTrim x, F := fun (x : S) => mTrim x }
theorem law123 : ∀ x : S, pTrim x → s_spec_Trim x (fun r => r = mTrim x) := fun x h => spec_Trim_ok x h
theorem all123 (w : World) (hJ : J w) : CtAt Tryd.prog ct123 w :=
  ct_by ok123 (cs123 w hJ) Tryd.func123 (by kernel_rfl) (H := (hint [(1, [.val 0 (.str)]), (3, [.val 0 (.str)])])) law123 (by kernel_rfl)
noncomputable def E149 : Env := { tt, eqs := [], cts := [ct123] }
theorem ok149 : EnvOk Tryd.prog E149 := ⟨ttOk, by kernel_rfl, rfl, mixOk⟩
theorem cs149 (w0 : World) (hJ : J w0) : EnvCts Tryd.prog E149 w0 := by
  intro c hc
  rcases List.mem_cons.1 hc with rfl | hc
  · exact fun w hb => all123 w (J_below hJ hb)
  cases hc
noncomputable def ct149 : Ct := { f := 149, ps := [.v false .ro ls9], rs := [(false, ls4)], shared := false, pre := fun (x : S) => pIsValueText x, F := fun (x : S) => mIsValueText x }
theorem law149 : ∀ x : S, pIsValueText x → s_spec_IsValueText x (fun r => r = mIsValueText x) := fun x h => spec_IsValueText_ok x h
theorem all149 (w : World) (hJ : J w) : CtAt Tryd.prog ct149 w :=
  ct_by ok149 (cs149 w hJ) Tryd.func149 (by kernel_rfl) (H := (hint [(2, [.val 3 (.int .i64)])])) law149 (by kernel_rfl)
noncomputable def E129 : Env := { tt, eqs := [], cts := [ct136, ct109, ct149] }
theorem ok129 : EnvOk Tryd.prog E129 := ⟨ttOk, by kernel_rfl, rfl, mixOk⟩
theorem cs129 (w0 : World) (hJ : J w0) : EnvCts Tryd.prog E129 w0 := by
  intro c hc
  rcases List.mem_cons.1 hc with rfl | hc
  · exact fun w hb => all136 w (J_below hJ hb)
  rcases List.mem_cons.1 hc with rfl | hc
  · exact fun w hb => all109 w (J_below hJ hb)
  rcases List.mem_cons.1 hc with rfl | hc
  · exact fun w hb => all149 w (J_below hJ hb)
  cases hc
noncomputable def ct129 : Ct := { f := 129, ps := [.v true .ro ls96], rs := [(false, ls4)], shared := false, pre := fun (x : Fld) => pFieldOk x, F := fun (x : Fld) => mFieldOk x }
theorem law129 : ∀ x : Fld, pFieldOk x → s_spec_l3FieldOk x (fun r => r = mFieldOk x) := fun x h => spec_l3FieldOk_ok x h
theorem all129 (w : World) (hJ : J w) : CtAt Tryd.prog ct129 w :=
  ct_by ok129 (cs129 w hJ) Tryd.func129 (by kernel_rfl) (H := (hint [])) law129 (by kernel_rfl)
noncomputable def E103 : Env := { tt, eqs := [], cts := [ct129] }
theorem ok103 : EnvOk Tryd.prog E103 := ⟨ttOk, by kernel_rfl, rfl, mixOk⟩
theorem cs103 (w0 : World) (hJ : J w0) : EnvCts Tryd.prog E103 w0 := by
  intro c hc
  rcases List.mem_cons.1 hc with rfl | hc
  · exact fun w hb => all129 w (J_below hJ hb)
  cases hc
noncomputable def ct103 : Ct := { f := 103, ps := [.v false .ro ls42], rs := [(false, ls4)], shared := false, pre := fun (x : (List Fld)) => pFieldsOk x, F := fun (x : (List Fld)) => mFieldsOk x }
theorem law103 : ∀ x : (List Fld), pFieldsOk x → s_spec_FieldsOk x (fun r => r = mFieldsOk x) := fun x h => spec_FieldsOk_ok x h
theorem all103 (w : World) (hJ : J w) : CtAt Tryd.prog ct103 w :=
  ct_by ok103 (cs103 w hJ) Tryd.func103 (by kernel_rfl) (H := (hint [(2, [.val 3 (.int .i64)])])) law103 (by kernel_rfl)
noncomputable def E55 : Env := { tt, eqs := [], cts := [ct67, ct103] }
theorem ok55 : EnvOk Tryd.prog E55 := ⟨ttOk, by kernel_rfl, rfl, mixOk⟩
theorem cs55 (w0 : World) (hJ : J w0) : EnvCts Tryd.prog E55 w0 := by
  intro c hc
  rcases List.mem_cons.1 hc with rfl | hc
  · exact fun w hb => all67 w (J_below hJ hb)
  rcases List.mem_cons.1 hc with rfl | hc
  · exact fun w hb => all103 w (J_below hJ hb)
  cases hc
noncomputable def ct55 : Ct := { f := 55, ps := [.v false .ro ls42], rs := [(false, ls4)], shared := false, pre := fun (x : (List Fld)) => pOwnFields x, F := fun (x : (List Fld)) => mOwnFields x }
theorem law55 : ∀ x : (List Fld), pOwnFields x → s_spec_l6Plain x (fun r => r = mOwnFields x) := fun x h => spec_l6Plain_ok x h
theorem all55 (w : World) (hJ : J w) : CtAt Tryd.prog ct55 w :=
  ct_by ok55 (cs55 w hJ) Tryd.func55 (by kernel_rfl) (H := (hint [])) law55 (by kernel_rfl)
noncomputable def E13 : Env := { tt, eqs := [], cts := [ct53, ct54, ct55] }
theorem ok13 : EnvOk Tryd.prog E13 := ⟨ttOk, by kernel_rfl, rfl, mixOk⟩
theorem cs13 (w0 : World) (hJ : J w0) : EnvCts Tryd.prog E13 w0 := by
  intro c hc
  rcases List.mem_cons.1 hc with rfl | hc
  · exact fun w hb => all53 w (J_below hJ hb)
  rcases List.mem_cons.1 hc with rfl | hc
  · exact fun w hb => all54 w (J_below hJ hb)
  rcases List.mem_cons.1 hc with rfl | hc
  · exact fun w hb => all55 w (J_below hJ hb)
  cases hc
noncomputable def ct13 : Ct := { f := 13, ps := [.v true .ro ls29], rs := [(false, ls4)], shared := false, pre := fun (x : (List Rsc)) => pOriginOk x, F := fun (x : (List Rsc)) => mOriginOk x }
theorem law13 : ∀ x : (List Rsc), pOriginOk x → s_spec_OriginOk x (fun r => r = mOriginOk x) := fun x h => spec_OriginOk_ok x h
theorem all13 (w : World) (hJ : J w) : CtAt Tryd.prog ct13 w :=
  ct_by ok13 (cs13 w hJ) Tryd.func13 (by kernel_rfl) (H := (hint [(2, [.val 3 (.int .i64)])])) law13 (by kernel_rfl)
noncomputable def E58 : Env := { tt, eqs := [], cts := [] }
theorem ok58 : EnvOk Tryd.prog E58 := ⟨ttOk, by kernel_rfl, rfl, mixOk⟩
theorem cs58 (w0 : World) (hJ : J w0) : EnvCts Tryd.prog E58 w0 := by
  intro c hc
  cases hc
noncomputable def ct58 : Ct := { f := 58, ps := [.v false .ro ls3, .v false .ro ls3, .v false .ro ls3], rs := [(false, ls4)], shared := false, pre := fun (x : Int × Int × Int) => pIn x.1 x.2.1 x.2.2, F := fun (x : Int × Int × Int) => mIn x.1 x.2.1 x.2.2 }
theorem law58 : ∀ x : Int × Int × Int, pIn x.1 x.2.1 x.2.2 → s_impl_in x.1 x.2.1 x.2.2 (fun r => r = mIn x.1 x.2.1 x.2.2) := fun x _ => impl_in_ok x.1 x.2.1 x.2.2
theorem all58 (w : World) (hJ : J w) : CtAt Tryd.prog ct58 w :=
  ct_by ok58 (cs58 w hJ) Tryd.func58 (by kernel_rfl) (H := (hint [])) law58 (by kernel_rfl)
noncomputable def E57 : Env := { tt, eqs := [], cts := [ct58] }
theorem ok57 : EnvOk Tryd.prog E57 := ⟨ttOk, by kernel_rfl, rfl, mixOk⟩
theorem cs57 (w0 : World) (hJ : J w0) : EnvCts Tryd.prog E57 w0 := by
  intro c hc
  rcases List.mem_cons.1 hc with rfl | hc
  · exact fun w hb => all58 w (J_below hJ hb)
  cases hc
noncomputable def ct57 : Ct := { f := 57, ps := [.v false .ro ls9], rs := [(false, ls4)], shared := false, pre := fun (x : S) => pUriOk x, F := fun (x : S) => mUriOk x }
theorem law57 : ∀ x : S, pUriOk x → s_impl_UriOk x (fun r => r = mUriOk x) := fun x h => impl_UriOk_ok x h
theorem all57 (w : World) (hJ : J w) : CtAt Tryd.prog ct57 w :=
  ct_by ok57 (cs57 w hJ) Tryd.func57 (by kernel_rfl) (H := (hint [(2, [.val 6 (.int .i64)])])) law57 (by kernel_rfl)
noncomputable def E156 : Env := { tt, eqs := [], cts := [] }
theorem ok156 : EnvOk Tryd.prog E156 := ⟨ttOk, by kernel_rfl, rfl, mixOk⟩
theorem cs156 (w0 : World) (hJ : J w0) : EnvCts Tryd.prog E156 w0 := by
  intro c hc
  cases hc
noncomputable def ct156 : Ct := { f := 156, ps := [.v false .ro ls5], rs := [(false, ls4)], shared := false, pre := fun (x : Int) => pIsLetterOrDigit x, F := fun (x : Int) => mIsLetterOrDigit x }
theorem law156 : ∀ x : Int, pIsLetterOrDigit x → s_impl_isLetterOrDigit x (fun r => r = mIsLetterOrDigit x) := fun x _ => impl_isLetterOrDigit_ok x
theorem all156 (w : World) (hJ : J w) : CtAt Tryd.prog ct156 w :=
  ct_by ok156 (cs156 w hJ) Tryd.func156 (by kernel_rfl) (H := (hint [])) law156 (by kernel_rfl)
noncomputable def ct157 : Ct := indexByteCt 157
theorem all157 (w : World) (hJ : J w) : CtAt Tryd.prog ct157 w := indexByte_ct ⟨_, Tryd.func157, by kernel_rfl, by kernel_rfl⟩ (fun s c => Tryd.strings_IndexByte s c w)
noncomputable def E140 : Env := { tt, eqs := [], cts := [ct156, ct157] }
theorem ok140 : EnvOk Tryd.prog E140 := ⟨ttOk, by kernel_rfl, rfl, mixOk⟩
theorem cs140 (w0 : World) (hJ : J w0) : EnvCts Tryd.prog E140 w0 := by
  intro c hc
  rcases List.mem_cons.1 hc with rfl | hc
  · exact fun w hb => all156 w (J_below hJ hb)
  rcases List.mem_cons.1 hc with rfl | hc
  · exact fun w hb => all157 w (J_below hJ hb)
  cases hc
noncomputable def ct140 : Ct := { f := 140, ps := [.v false .ro ls9], rs := [(false, ls4)], shared := false, pre := fun (x : S) => pIsTokenText x, F := fun (x : S) => mIsTokenText x }
theorem law140 : ∀ x : S, pIsTokenText x → s_impl_IsTokenText x (fun r => r = mIsTokenText x) := fun x h => impl_IsTokenText_ok x h
theorem all140 (w : World) (hJ : J w) : CtAt Tryd.prog ct140 w :=
  ct_by ok140 (cs140 w hJ) Tryd.func140 (by kernel_rfl) (H := (hint [(2, [.val 6 (.int .i64)])])) law140 (by kernel_rfl)
set_option maxRecDepth 100000 in
theorem lower_calls110 (s : ByteArray) (hs : s.size ≤ 1073741824) (w : World) : Calls Tryd.prog 110 #[.string s] w fun e w' => e = .returned (.string (mLower s)) ∧ Below w.heap.size w w' := by
  obtain ⟨W1, cap, hconv, hW1⟩ := low_new Tryd.prog 9 131 5 w s Tryd.underlying9 Tryd.underlying131 Tryd.underlying5
  go_enter Tryd.func110, Tryd.ntmps110
  go_wp2
  go_loopg [10] s.size (fun gg v10 wr => ∃ i : Nat, i + gg = s.size ∧ v10 = .int .i64 (i : Int) ∧ Hid (LowW w.heap.size s i w wr))
  case atStart => exact ⟨0, by omega, rfl, hW1⟩
  case round =>
    obtain ⟨i, hi, rfl, hW⟩ := hrel
    have hH := hW.out
    by_cases hlt : i < s.size
    · have hcz := hH.2 i hlt
      rw [if_neg (Nat.lt_irrefl i)] at hcz
      have hlb := low_byte (bs s)[i]!
      have hx : ((bs s)[i]!).toNat < 256 := UInt8.toNat_lt _
      generalize hxe : ((bs s)[i]!).toNat = x at *
      obtain ⟨hc, hz⟩ := hcz
      have d1 : ((i : Int) < (s.size : Int)) := by omega
      have d0 : (0 : Int) ≤ (i : Int) := by omega
      have HC := (show Hid (i < s.size ∧ LowW w.heap.size s i w wr ∧ ((bs s)[i]!).toNat = x) from ⟨hlt, hH, hxe⟩)
      have HL := (show Hid _ from hlb)
      clear hH hlb hW hxe hlt
      by_cases c1 : 65 ≤ x
      · by_cases c2 : x ≤ 90
        · have k1 : decide (65 ≤ (x : Int)) = true := decide_eq_true (by omega)
          have k2 : decide ((x : Int) ≤ 90) = true := decide_eq_true (by omega)
          go_wp2
          go_roundg (gk - 1)
          case measure => have := HC.out.1; omega
          case rel =>
            obtain ⟨hlt, hH, hxe⟩ := HC.out
            refine ⟨i + 1, by omega, by simp, hH.next hlt ?_⟩
            rw [← HL.out.1 ⟨c1, c2⟩, IntKind.wrap_u8, IntKind.wrap_u8]; omega
        · have k1 : decide (65 ≤ (x : Int)) = true := decide_eq_true (by omega)
          have k2 : decide ((x : Int) ≤ 90) = false := decide_eq_false (by omega)
          go_wp2
          go_roundg (gk - 1)
          case measure => have := HC.out.1; omega
          case rel =>
            obtain ⟨hlt, hH, hxe⟩ := HC.out
            exact ⟨i + 1, by omega, by simp, hH.skip hlt (HL.out.2 (fun h => c2 h.2))⟩
      · have k1 : decide (65 ≤ (x : Int)) = false := decide_eq_false (by omega)
        go_wp2
        go_roundg (gk - 1)
        case measure => have := HC.out.1; omega
        case rel =>
          obtain ⟨hlt, hH, hxe⟩ := HC.out
          exact ⟨i + 1, by omega, by simp, hH.skip hlt (HL.out.2 (fun h => c1 h.1))⟩
    · have hie : i = s.size := by omega
      subst hie
      have hb := low_end Tryd.prog 131 9 5 w.heap.size cap w wr s Tryd.underlying131 Tryd.underlying5 Tryd.underlying9 hH
      have HC := (show Hid (Below w.heap.size w wr) from hH.1)
      clear hH hW hlt
      go_wp2
      go_ret
      exact ⟨rfl, HC.out⟩
noncomputable def ct110 : Ct := lowerCt 110
theorem all110 (w : World) (hJ : J w) : CtAt Tryd.prog ct110 w := lower_ct ⟨_, Tryd.func110, by kernel_rfl, by kernel_rfl⟩ (fun s h => lower_calls110 s h w)
noncomputable def ct148 : Ct := trimLCt 148
theorem all148 (w : World) (hJ : J w) : CtAt Tryd.prog ct148 w := trimL_ct ⟨_, Tryd.func148, by kernel_rfl, by kernel_rfl⟩ (fun s cs h1 h2 h3 => Go.Proofs.Any.strings_Trim_laid Tryd.lays160 (by kernel_rfl) s cs w h1 h2 h3)
noncomputable def E128 : Env := { tt, eqs := [], cts := [ct148] }
theorem ok128 : EnvOk Tryd.prog E128 := ⟨ttOk, by kernel_rfl, rfl, mixOk⟩
theorem cs128 (w0 : World) (hJ : J w0) : EnvCts Tryd.prog E128 w0 := by
  intro c hc
  rcases List.mem_cons.1 hc with rfl | hc
  · exact fun w hb => all148 w (J_below hJ hb)
  cases hc
noncomputable def ct128 : Ct := { f := 128, ps := [.v false .ro ls9], rs := [(false, ls9)], shared := false, pre := fun (x : S) => pTrim x, F := fun (x : S) => mTrim x }
theorem law128 : ∀ x : S, pTrim x → s_impl_Trim x (fun r => r = mTrim x) := fun x h => impl_Trim_ok x h
theorem all128 (w : World) (hJ : J w) : CtAt Tryd.prog ct128 w :=
  ct_by ok128 (cs128 w hJ) Tryd.func128 (by kernel_rfl) (H := (hint [])) law128 (by kernel_rfl)
noncomputable def E151 : Env := { tt, eqs := [], cts := [ct128] }
theorem ok151 : EnvOk Tryd.prog E151 := ⟨ttOk, by kernel_rfl, rfl, mixOk⟩
theorem cs151 (w0 : World) (hJ : J w0) : EnvCts Tryd.prog E151 w0 := by
  intro c hc
  rcases List.mem_cons.1 hc with rfl | hc
  · exact fun w hb => all128 w (J_below hJ hb)
  cases hc
noncomputable def ct151 : Ct := { f := 151, ps := [.v false .ro ls9], rs := [(false, ls4)], shared := false, pre := fun (x : S) => pIsValueText x, F := fun (x : S) => mIsValueText x }
theorem law151 : ∀ x : S, pIsValueText x → s_impl_IsValueText x (fun r => r = mIsValueText x) := fun x h => impl_IsValueText_ok x h
theorem all151 (w : World) (hJ : J w) : CtAt Tryd.prog ct151 w :=
  ct_by ok151 (cs151 w hJ) Tryd.func151 (by kernel_rfl) (H := (hint [(2, [.val 6 (.int .i64)])])) law151 (by kernel_rfl)
noncomputable def E132 : Env := { tt, eqs := [], cts := [ct140, ct110, ct151] }
theorem ok132 : EnvOk Tryd.prog E132 := ⟨ttOk, by kernel_rfl, rfl, mixOk⟩
theorem cs132 (w0 : World) (hJ : J w0) : EnvCts Tryd.prog E132 w0 := by
  intro c hc
  rcases List.mem_cons.1 hc with rfl | hc
  · exact fun w hb => all140 w (J_below hJ hb)
  rcases List.mem_cons.1 hc with rfl | hc
  · exact fun w hb => all110 w (J_below hJ hb)
  rcases List.mem_cons.1 hc with rfl | hc
  · exact fun w hb => all151 w (J_below hJ hb)
  cases hc
noncomputable def ct132 : Ct := { f := 132, ps := [.v true .ro ls96], rs := [(false, ls4)], shared := false, pre := fun (x : Fld) => pFieldOk x, F := fun (x : Fld) => mFieldOk x }
theorem law132 : ∀ x : Fld, pFieldOk x → s_impl_fieldOk x (fun r => r = mFieldOk x) := fun x h => impl_fieldOk_ok x h
theorem all132 (w : World) (hJ : J w) : CtAt Tryd.prog ct132 w :=
  ct_by ok132 (cs132 w hJ) Tryd.func132 (by kernel_rfl) (H := (hint [])) law132 (by kernel_rfl)
noncomputable def E131 : Env := { tt, eqs := [], cts := [ct132] }
theorem ok131 : EnvOk Tryd.prog E131 := ⟨ttOk, by kernel_rfl, rfl, mixOk⟩
theorem cs131 (w0 : World) (hJ : J w0) : EnvCts Tryd.prog E131 w0 := by
  intro c hc
  rcases List.mem_cons.1 hc with rfl | hc
  · exact fun w hb => all132 w (J_below hJ hb)
  cases hc
noncomputable def ct131 : Ct := { f := 131, ps := [.v true .ro ls96], rs := [(false, ls4)], shared := false, pre := fun (x : Fld) => pFieldsOk_1 x, F := fun (x : Fld) => mFieldsOk_1 x }
theorem law131 : ∀ x : Fld, pFieldsOk_1 x → s_impl_FieldsOk_1 x (fun r => r = mFieldsOk_1 x) := fun x h => impl_FieldsOk_1_ok x h
theorem all131 (w : World) (hJ : J w) : CtAt Tryd.prog ct131 w :=
  ct_by ok131 (cs131 w hJ) Tryd.func131 (by kernel_rfl) (H := (hint [])) law131 (by kernel_rfl)
noncomputable def E150_131 : Env := { tt, eqs := [], cts := [ct131] }
theorem ok150_131 : EnvOk Tryd.prog E150_131 := ⟨ttOk, by kernel_rfl, rfl, mixOk⟩
theorem cs150_131 (w0 : World) (hJ : J w0) : EnvCts Tryd.prog E150_131 w0 := by
  intro c hc
  rcases List.mem_cons.1 hc with rfl | hc
  · exact fun w hb => all131 w (J_below hJ hb)
  cases hc
noncomputable def ct150_131 : Ct := { f := 150, ps := [.v false .ro ls42, .c 131 []], rs := [(false, ls3)], shared := false, pre := fun (x : (List Fld) × Unit) => pIndexFunc_FieldsOk_1 x.1 x.2, F := fun (x : (List Fld) × Unit) => mIndexFunc_FieldsOk_1 x.1 x.2 }
theorem law150_131 : ∀ x : (List Fld) × Unit, pIndexFunc_FieldsOk_1 x.1 x.2 → s_IndexFunc_FieldsOk_1 x.1 x.2 (fun r => r = mIndexFunc_FieldsOk_1 x.1 x.2) := fun x h => IndexFunc_FieldsOk_1_ok x.1 x.2 h
theorem all150_131 (w : World) (hJ : J w) : CtAt Tryd.prog ct150_131 w :=
  ct_by ok150_131 (cs150_131 w hJ) Tryd.func150 (by kernel_rfl) (H := (hint [(2, [.val 8 (.int .i64)])])) law150_131 (by kernel_rfl)
noncomputable def E130_131 : Env := { tt, eqs := [], cts := [ct150_131] }
theorem ok130_131 : EnvOk Tryd.prog E130_131 := ⟨ttOk, by kernel_rfl, rfl, mixOk⟩
theorem cs130_131 (w0 : World) (hJ : J w0) : EnvCts Tryd.prog E130_131 w0 := by
  intro c hc
  rcases List.mem_cons.1 hc with rfl | hc
  · exact fun w hb => all150_131 w (J_below hJ hb)
  cases hc
noncomputable def ct130_131 : Ct := { f := 130, ps := [.v false .ro ls42, .c 131 []], rs := [(false, ls4)], shared := false, pre := fun (x : (List Fld) × Unit) => pContainsFunc_FieldsOk_1 x.1 x.2, F := fun (x : (List Fld) × Unit) => mContainsFunc_FieldsOk_1 x.1 x.2 }
theorem law130_131 : ∀ x : (List Fld) × Unit, pContainsFunc_FieldsOk_1 x.1 x.2 → s_ContainsFunc_FieldsOk_1 x.1 x.2 (fun r => r = mContainsFunc_FieldsOk_1 x.1 x.2) := fun x h => ContainsFunc_FieldsOk_1_ok x.1 x.2 h
theorem all130_131 (w : World) (hJ : J w) : CtAt Tryd.prog ct130_131 w :=
  ct_by ok130_131 (cs130_131 w hJ) Tryd.func130 (by kernel_rfl) (H := (hint [])) law130_131 (by kernel_rfl)
noncomputable def E105 : Env := { tt, eqs := [], cts := [ct130_131] }
theorem ok105 : EnvOk Tryd.prog E105 := ⟨ttOk, by kernel_rfl, rfl, mixOk⟩
theorem cs105 (w0 : World) (hJ : J w0) : EnvCts Tryd.prog E105 w0 := by
  intro c hc
  rcases List.mem_cons.1 hc with rfl | hc
  · exact fun w hb => all130_131 w (J_below hJ hb)
  cases hc
noncomputable def ct105 : Ct := { f := 105, ps := [.v false .ro ls42], rs := [(false, ls4)], shared := false, pre := fun (x : (List Fld)) => pFieldsOk x, F := fun (x : (List Fld)) => mFieldsOk x }
theorem law105 : ∀ x : (List Fld), pFieldsOk x → s_impl_FieldsOk x (fun r => r = mFieldsOk x) := fun x h => impl_FieldsOk_ok x h
theorem all105 (w : World) (hJ : J w) : CtAt Tryd.prog ct105 w :=
  ct_by ok105 (cs105 w hJ) Tryd.func105 (by kernel_rfl) (H := (hint [])) law105 (by kernel_rfl)
noncomputable def ct111 : Ct := joinCt 9 111
theorem all111 (w : World) (hJ : J w) : CtAt Tryd.prog ct111 w := join_ct ⟨_, Tryd.func111, by kernel_rfl, by kernel_rfl⟩ (fun a c sep => Tryd.strings_Join_none a c sep w) (fun bk o c xs sep h1 h2 h3 h4 h5 => Tryd.strings_Join bk o c xs sep w h1 h2 h3 h4 h5)
noncomputable def E70 : Env := { tt, eqs := [], cts := [ct111] }
theorem ok70 : EnvOk Tryd.prog E70 := ⟨ttOk, by kernel_rfl, rfl, mixOk⟩
theorem cs70 (w0 : World) (hJ : J w0) : EnvCts Tryd.prog E70 w0 := by
  intro c hc
  rcases List.mem_cons.1 hc with rfl | hc
  · exact fun w hb => all111 w (J_below hJ hb)
  cases hc
noncomputable def ct70 : Ct := { f := 70, ps := [.v false .ro ls42, .v false .ro ls9], rs := [(false, ls9), (false, ls4)], shared := false, pre := fun (x : (List Fld) × S) => pFieldGet x.1 x.2, F := fun (x : (List Fld) × S) => mFieldGet x.1 x.2 }
theorem law70 : ∀ x : (List Fld) × S, pFieldGet x.1 x.2 → s_impl_FieldGet x.1 x.2 (fun r => r = mFieldGet x.1 x.2) := fun x h => impl_FieldGet_ok x.1 x.2 h
theorem all70 (w : World) (hJ : J w) : CtAt Tryd.prog ct70 w :=
  ct_by ok70 (cs70 w hJ) Tryd.func70 (by kernel_rfl) (H := (hint [(3, [.reg 6 9 [.str] true, .val 12 (.int .i64)])])) law70 (by kernel_rfl)
noncomputable def E98 : Env := { tt, eqs := [], cts := [ct70] }
theorem ok98 : EnvOk Tryd.prog E98 := ⟨ttOk, by kernel_rfl, rfl, mixOk⟩
theorem cs98 (w0 : World) (hJ : J w0) : EnvCts Tryd.prog E98 w0 := by
  intro c hc
  rcases List.mem_cons.1 hc with rfl | hc
  · exact fun w hb => all70 w (J_below hJ hb)
  cases hc
noncomputable def ct98 : Ct := { f := 98, ps := [.v false .ro ls42, .v false .ro ls9], rs := [(false, ls4)], shared := false, pre := fun (x : (List Fld) × S) => pHasField x.1 x.2, F := fun (x : (List Fld) × S) => mHasField x.1 x.2 }
theorem law98 : ∀ x : (List Fld) × S, pHasField x.1 x.2 → s_impl_hasField x.1 x.2 (fun r => r = mHasField x.1 x.2) := fun x h => impl_hasField_ok x.1 x.2 h
theorem all98 (w : World) (hJ : J w) : CtAt Tryd.prog ct98 w :=
  ct_by ok98 (cs98 w hJ) Tryd.func98 (by kernel_rfl) (H := (hint [])) law98 (by kernel_rfl)
noncomputable def E106 : Env := { tt, eqs := [], cts := [ct98] }
theorem ok106 : EnvOk Tryd.prog E106 := ⟨ttOk, by kernel_rfl, rfl, mixOk⟩
theorem cs106 (w0 : World) (hJ : J w0) : EnvCts Tryd.prog E106 w0 := by
  intro c hc
  rcases List.mem_cons.1 hc with rfl | hc
  · exact fun w hb => all98 w (J_below hJ hb)
  cases hc
noncomputable def ct106 : Ct := { f := 106, ps := [.v false .ro ls42], rs := [(false, ls4)], shared := false, pre := fun (x : (List Fld)) => pBodyFields x, F := fun (x : (List Fld)) => mBodyFields x }
theorem law106 : ∀ x : (List Fld), pBodyFields x → s_impl_bodyFields x (fun r => r = mBodyFields x) := fun x h => impl_bodyFields_ok x h
theorem all106 (w : World) (hJ : J w) : CtAt Tryd.prog ct106 w :=
  ct_by ok106 (cs106 w hJ) Tryd.func106 (by kernel_rfl) (H := (hint [])) law106 (by kernel_rfl)
noncomputable def E59 : Env := { tt, eqs := [], cts := [ct105, ct106] }
theorem ok59 : EnvOk Tryd.prog E59 := ⟨ttOk, by kernel_rfl, rfl, mixOk⟩
theorem cs59 (w0 : World) (hJ : J w0) : EnvCts Tryd.prog E59 w0 := by
  intro c hc
  rcases List.mem_cons.1 hc with rfl | hc
  · exact fun w hb => all105 w (J_below hJ hb)
  rcases List.mem_cons.1 hc with rfl | hc
  · exact fun w hb => all106 w (J_below hJ hb)
  cases hc
noncomputable def ct59 : Ct := { f := 59, ps := [.v false .ro ls42], rs := [(false, ls4)], shared := false, pre := fun (x : (List Fld)) => pOwnFields x, F := fun (x : (List Fld)) => mOwnFields x }
theorem law59 : ∀ x : (List Fld), pOwnFields x → s_impl_ownFields x (fun r => r = mOwnFields x) := fun x h => impl_ownFields_ok x h
theorem all59 (w : World) (hJ : J w) : CtAt Tryd.prog ct59 w :=
  ct_by ok59 (cs59 w hJ) Tryd.func59 (by kernel_rfl) (H := (hint [])) law59 (by kernel_rfl)
noncomputable def E15 : Env := { tt, eqs := [], cts := [ct57, ct58, ct59] }
theorem ok15 : EnvOk Tryd.prog E15 := ⟨ttOk, by kernel_rfl, rfl, mixOk⟩
theorem cs15 (w0 : World) (hJ : J w0) : EnvCts Tryd.prog E15 w0 := by
  intro c hc
  rcases List.mem_cons.1 hc with rfl | hc
  · exact fun w hb => all57 w (J_below hJ hb)
  rcases List.mem_cons.1 hc with rfl | hc
  · exact fun w hb => all58 w (J_below hJ hb)
  rcases List.mem_cons.1 hc with rfl | hc
  · exact fun w hb => all59 w (J_below hJ hb)
  cases hc
noncomputable def ct15 : Ct := { f := 15, ps := [.v true .ro ls29], rs := [(false, ls4)], shared := false, pre := fun (x : (List Rsc)) => pOriginOk x, F := fun (x : (List Rsc)) => mOriginOk x }
theorem law15 : ∀ x : (List Rsc), pOriginOk x → s_impl_OriginOk x (fun r => r = mOriginOk x) := fun x h => impl_OriginOk_ok x h
theorem all15 (w : World) (hJ : J w) : CtAt Tryd.prog ct15 w :=
  ct_by ok15 (cs15 w hJ) Tryd.func15 (by kernel_rfl) (H := (hint [(2, [.val 8 (.int .i64)])])) law15 (by kernel_rfl)
noncomputable def E65 : Env := { tt, eqs := [], cts := [] }
theorem ok65 : EnvOk Tryd.prog E65 := ⟨ttOk, by kernel_rfl, rfl, mixOk⟩
theorem cs65 (w0 : World) (hJ : J w0) : EnvCts Tryd.prog E65 w0 := by
  intro c hc
  cases hc
noncomputable def ct65 : Ct := { f := 65, ps := [.v true .ro ls96, .v true .ro ls96], rs := [(false, [.bool])], shared := false, pre := fun (q : Fld × Fld) => pEq q.1 q.2, F := fun (q : Fld × Fld) => eqF q.1 q.2 }
def st65 : List (EqStep Fld) := [.ne (fun (x y : Fld) => x.1 ≠ y.1), .ne (fun (x y : Fld) => x.2 ≠ y.2)]
def mk65 (a0 : S) (a1 : S) : Fld := (a0, a1)
theorem a65 (x y : Fld) : eqAll x y st65 ↔ x = y := by
  constructor
  · rintro ⟨h0, h1, -⟩
    have h0 : x.1 = y.1 := Classical.byContradiction h0
    have h1 : x.2 = y.2 := Classical.byContradiction h1
    show mk65 (x.1) (x.2) = mk65 (y.1) (y.2)
    rw [h0, h1]
    all_goals rfl
  · rintro rfl
    exact ⟨fun h => h rfl, fun h => h rfl, trivial⟩
theorem w65 (x y : Fld) (h : wd x) : eqFine x y st65 := by
  first | simp only [wd_pair] at h | skip
  simp only [eqFine, st65, wd_pair]
  all_goals simp only [h, and_self]
theorem law65 : ∀ q : Fld × Fld, pEq q.1 q.2 → eqSt q.1 q.2 st65 (fun r => r = eqF q.1 q.2) := fun q hq => eqSt_holds q.1 q.2 st65 (w65 q.1 q.2 hq) (eqF_iff.trans (a65 q.1 q.2).symm)
theorem all65 (w : World) (hJ : J w) : CtAt Tryd.prog ct65 w :=
  ct_by ok65 (cs65 w hJ) Tryd.func65 (by kernel_rfl) (H := (hint [])) law65 (by kernel_rfl)
noncomputable def E27 : Env := { tt, eqs := [], cts := [ct65] }
theorem ok27 : EnvOk Tryd.prog E27 := ⟨ttOk, by kernel_rfl, rfl, mixOk⟩
theorem cs27 (w0 : World) (hJ : J w0) : EnvCts Tryd.prog E27 w0 := by
  intro c hc
  rcases List.mem_cons.1 hc with rfl | hc
  · exact fun w hb => all65 w (J_below hJ hb)
  cases hc
noncomputable def ct27 : Ct := { f := 27, ps := [.v false .ro ls42, .v false .ro ls42], rs := [(false, [.bool])], shared := false, pre := fun (q : (List Fld) × (List Fld)) => pEq q.1 q.2, F := fun (q : (List Fld) × (List Fld)) => eqF q.1 q.2 }
theorem law27 : ∀ q : (List Fld) × (List Fld), pEq q.1 q.2 → eqS (α := Fld) Dft.dft (fun a b => pEq a b) (fun a b => eqF a b) q.1 q.2 (fun r => r = eqF q.1 q.2) := fun q hq => eqS_holds (α := Fld) Dft.dft (fun a b => pEq a b) (fun a b => eqF a b) q.1 q.2 hq.1 (fun i a _ h => hq.2 i a h) (fun _ _ => eqF_iff) eqF_iff
theorem all27 (w : World) (hJ : J w) : CtAt Tryd.prog ct27 w :=
  ct_by ok27 (cs27 w hJ) Tryd.func27 (by kernel_rfl) (H := (hint [(4, [.val 5 (.int .i64)])])) law27 (by kernel_rfl)
noncomputable def E107 : Env := { tt, eqs := [], cts := [ct27] }
theorem ok107 : EnvOk Tryd.prog E107 := ⟨ttOk, by kernel_rfl, rfl, mixOk⟩
theorem cs107 (w0 : World) (hJ : J w0) : EnvCts Tryd.prog E107 w0 := by
  intro c hc
  rcases List.mem_cons.1 hc with rfl | hc
  · exact fun w hb => all27 w (J_below hJ hb)
  cases hc
noncomputable def ct107 : Ct := { f := 107, ps := [.v true .ro ls87, .v true .ro ls87], rs := [(false, [.bool])], shared := false, pre := fun (q : Rsc × Rsc) => pEq q.1 q.2, F := fun (q : Rsc × Rsc) => eqF q.1 q.2 }
def st107 : List (EqStep Rsc) := [.ne (fun (x y : Rsc) => x.1 ≠ y.1), .ne (fun (x y : Rsc) => x.2.1 ≠ y.2.1), .ne (fun (x y : Rsc) => x.2.2.1 ≠ y.2.2.1), .ne (fun (x y : Rsc) => x.2.2.2.1 ≠ y.2.2.2.1), .ne (fun (x y : Rsc) => x.2.2.2.2.1 ≠ y.2.2.2.2.1), .ne (fun (x y : Rsc) => x.2.2.2.2.2.1 ≠ y.2.2.2.2.2.1), .call (fun (x _ : Rsc) => wd (x.2.2.2.2.2.2 : (List Fld))) (fun (x y : Rsc) => eqF (x.2.2.2.2.2.2 : (List Fld)) y.2.2.2.2.2.2)]
def mk107 (a0 : S) (a1 : S) (a2 : Int) (a3 : Int) (a4 : Bool) (a5 : Bool) (a6 : (List Fld)) : Rsc := (a0, a1, a2, a3, a4, a5, a6)
theorem a107 (x y : Rsc) : eqAll x y st107 ↔ x = y := by
  constructor
  · rintro ⟨h0, h1, h2, h3, h4, h5, h6, -⟩
    have h0 : x.1 = y.1 := Classical.byContradiction h0
    have h1 : x.2.1 = y.2.1 := Classical.byContradiction h1
    have h2 : x.2.2.1 = y.2.2.1 := Classical.byContradiction h2
    have h3 : x.2.2.2.1 = y.2.2.2.1 := Classical.byContradiction h3
    have h4 : x.2.2.2.2.1 = y.2.2.2.2.1 := Classical.byContradiction h4
    have h5 : x.2.2.2.2.2.1 = y.2.2.2.2.2.1 := Classical.byContradiction h5
    have h6 : (x.2.2.2.2.2.2 : (List Fld)) = y.2.2.2.2.2.2 := eqF_iff.1 h6
    show mk107 (x.1) (x.2.1) (x.2.2.1) (x.2.2.2.1) (x.2.2.2.2.1) (x.2.2.2.2.2.1) (x.2.2.2.2.2.2) = mk107 (y.1) (y.2.1) (y.2.2.1) (y.2.2.2.1) (y.2.2.2.2.1) (y.2.2.2.2.2.1) (y.2.2.2.2.2.2)
    rw [h0, h1, h2, h3, h4, h5, h6]
    all_goals rfl
  · rintro rfl
    exact ⟨fun h => h rfl, fun h => h rfl, fun h => h rfl, fun h => h rfl, fun h => h rfl, fun h => h rfl, eqF_iff.2 rfl, trivial⟩
theorem w107 (x y : Rsc) (h : wd x) : eqFine x y st107 := by
  first | simp only [wd_pair] at h | skip
  simp only [eqFine, st107, wd_pair]
  all_goals simp only [h, and_self]
theorem law107 : ∀ q : Rsc × Rsc, pEq q.1 q.2 → eqSt q.1 q.2 st107 (fun r => r = eqF q.1 q.2) := fun q hq => eqSt_holds q.1 q.2 st107 (w107 q.1 q.2 hq) (eqF_iff.trans (a107 q.1 q.2).symm)
theorem all107 (w : World) (hJ : J w) : CtAt Tryd.prog ct107 w :=
  ct_by ok107 (cs107 w hJ) Tryd.func107 (by kernel_rfl) (H := (hint [])) law107 (by kernel_rfl)
noncomputable def E60 : Env := { tt, eqs := [], cts := [ct107] }
theorem ok60 : EnvOk Tryd.prog E60 := ⟨ttOk, by kernel_rfl, rfl, mixOk⟩
theorem cs60 (w0 : World) (hJ : J w0) : EnvCts Tryd.prog E60 w0 := by
  intro c hc
  rcases List.mem_cons.1 hc with rfl | hc
  · exact fun w hb => all107 w (J_below hJ hb)
  cases hc
noncomputable def ct60 : Ct := { f := 60, ps := [.v false .ro ls27, .v false .ro ls27], rs := [(false, [.bool])], shared := false, pre := fun (q : (List Rsc) × (List Rsc)) => pEq q.1 q.2, F := fun (q : (List Rsc) × (List Rsc)) => eqF q.1 q.2 }
theorem law60 : ∀ q : (List Rsc) × (List Rsc), pEq q.1 q.2 → eqS (α := Rsc) Dft.dft (fun a b => pEq a b) (fun a b => eqF a b) q.1 q.2 (fun r => r = eqF q.1 q.2) := fun q hq => eqS_holds (α := Rsc) Dft.dft (fun a b => pEq a b) (fun a b => eqF a b) q.1 q.2 hq.1 (fun i a _ h => hq.2 i a h) (fun _ _ => eqF_iff) eqF_iff
theorem all60 (w : World) (hJ : J w) : CtAt Tryd.prog ct60 w :=
  ct_by ok60 (cs60 w hJ) Tryd.func60 (by kernel_rfl) (H := (hint [(4, [.val 5 (.int .i64)])])) law60 (by kernel_rfl)
noncomputable def E16 : Env := { tt, eqs := [], cts := [ct60] }
theorem ok16 : EnvOk Tryd.prog E16 := ⟨ttOk, by kernel_rfl, rfl, mixOk⟩
theorem cs16 (w0 : World) (hJ : J w0) : EnvCts Tryd.prog E16 w0 := by
  intro c hc
  rcases List.mem_cons.1 hc with rfl | hc
  · exact fun w hb => all60 w (J_below hJ hb)
  cases hc
noncomputable def ct16 : Ct := { f := 16, ps := [.v true .ro ls29, .v true .ro ls29], rs := [(false, [.bool])], shared := false, pre := fun (q : (List Rsc) × (List Rsc)) => pEq q.1 q.2, F := fun (q : (List Rsc) × (List Rsc)) => eqF q.1 q.2 }
def st16 : List (EqStep (List Rsc)) := [.call (fun (x _ : (List Rsc)) => wd (x : (List Rsc))) (fun (x y : (List Rsc)) => eqF (x : (List Rsc)) y)]
def mk16 (a0 : (List Rsc)) : (List Rsc) := a0
theorem a16 (x y : (List Rsc)) : eqAll x y st16 ↔ x = y := by
  constructor
  · rintro ⟨h0, -⟩
    have h0 : (x : (List Rsc)) = y := eqF_iff.1 h0
    show mk16 (x) = mk16 (y)
    rw [h0]
    all_goals rfl
  · rintro rfl
    exact ⟨eqF_iff.2 rfl, trivial⟩
theorem w16 (x y : (List Rsc)) (h : wd x) : eqFine x y st16 := by
  first | simp only [wd_pair] at h | skip
  simp only [eqFine, st16, wd_pair]
  all_goals simp only [h, and_self]
theorem law16 : ∀ q : (List Rsc) × (List Rsc), pEq q.1 q.2 → eqSt q.1 q.2 st16 (fun r => r = eqF q.1 q.2) := fun q hq => eqSt_holds q.1 q.2 st16 (w16 q.1 q.2 hq) (eqF_iff.trans (a16 q.1 q.2).symm)
theorem all16 (w : World) (hJ : J w) : CtAt Tryd.prog ct16 w :=
  ct_by ok16 (cs16 w hJ) Tryd.func16 (by kernel_rfl) (H := (hint [])) law16 (by kernel_rfl)
noncomputable def E18 : Env := { tt, eqs := [], cts := [ct19] }
theorem ok18 : EnvOk Tryd.prog E18 := ⟨ttOk, by kernel_rfl, rfl, mixOk⟩
theorem cs18 (w0 : World) (hJ : J w0) : EnvCts Tryd.prog E18 w0 := by
  intro c hc
  rcases List.mem_cons.1 hc with rfl | hc
  · exact fun w hb => all19 w (J_below hJ hb)
  cases hc
noncomputable def ct18 : Ct := { f := 18, ps := [.v true .ro ls37, .v false .ro [.int .i64]], rs := [(false, [.int .i64])], shared := false, pre := fun (q : Rsp × Int) => pSz q.1 q.2, F := fun (q : Rsp × Int) => szF q.1 q.2 }
def st18 : List (SzStep Rsp) := [.call (fun x : Rsp => wd (x.2.1 : (List Fld))) (fun x : Rsp => cz (x.2.1 : (List Fld))), .str (fun x : Rsp => x.2.2)]
theorem c18 (x : Rsp) : szSum x st18 = cz x := by
  simp only [szSum, st18, cz_pair, cz_int, cz_bool, cz_str]
  all_goals omega
theorem w18 (x : Rsp) (h : wd x) : szFine x st18 := by
  first | simp only [wd_pair] at h | skip
  simp only [szFine, st18, wd_pair, wf_wd]
  simp only [h, and_self]
theorem law18 : ∀ q : Rsp × Int, pSz q.1 q.2 → szSt q.1 st18 q.2 (fun r => r = szF q.1 q.2) := fun q hq => szSt_holds q.1 st18 q.2 _ (w18 q.1 hq.1) hq.2.1 hq.2.2 (c18 q.1)
theorem all18 (w : World) (hJ : J w) : CtAt Tryd.prog ct18 w :=
  ct_by ok18 (cs18 w hJ) Tryd.func18 (by kernel_rfl) (H := (hint [])) law18 (by kernel_rfl)
noncomputable def E144 : Env := { tt, eqs := [], cts := [ct19, ct18] }
theorem ok144 : EnvOk Tryd.prog E144 := ⟨ttOk, by kernel_rfl, rfl, mixOk⟩
theorem cs144 (w0 : World) (hJ : J w0) : EnvCts Tryd.prog E144 w0 := by
  intro c hc
  rcases List.mem_cons.1 hc with rfl | hc
  · exact fun w hb => all19 w (J_below hJ hb)
  rcases List.mem_cons.1 hc with rfl | hc
  · exact fun w hb => all18 w (J_below hJ hb)
  cases hc
noncomputable def ct144 : Ct := { f := 144, ps := [.v true .ro ls143, .v false .ro [.int .i64]], rs := [(false, [.int .i64])], shared := false, pre := fun (q : Sto × Int) => pSz q.1 q.2, F := fun (q : Sto × Int) => szF q.1 q.2 }
def st144 : List (SzStep Sto) := [.str (fun x : Sto => x.1), .call (fun x : Sto => wd (x.2.1 : (List Fld))) (fun x : Sto => cz (x.2.1 : (List Fld))), .call (fun x : Sto => wd ((x.2.2.1, x.2.2.2.1, x.2.2.2.2.1) : Rsp)) (fun x : Sto => cz ((x.2.2.1, x.2.2.2.1, x.2.2.2.2.1) : Rsp))]
theorem c144 (x : Sto) : szSum x st144 = cz x := by
  simp only [szSum, st144, cz_pair, cz_int, cz_bool, cz_str]
  all_goals omega
theorem w144 (x : Sto) (h : wd x) : szFine x st144 := by
  first | simp only [wd_pair] at h | skip
  simp only [szFine, st144, wd_pair, wf_wd]
  simp only [h, and_self]
theorem law144 : ∀ q : Sto × Int, pSz q.1 q.2 → szSt q.1 st144 q.2 (fun r => r = szF q.1 q.2) := fun q hq => szSt_holds q.1 st144 q.2 _ (w144 q.1 hq.1) hq.2.1 hq.2.2 (c144 q.1)
theorem all144 (w : World) (hJ : J w) : CtAt Tryd.prog ct144 w :=
  ct_by ok144 (cs144 w hJ) Tryd.func144 (by kernel_rfl) (H := (hint [])) law144 (by kernel_rfl)
noncomputable def E119 : Env := { tt, eqs := [], cts := [ct144] }
theorem ok119 : EnvOk Tryd.prog E119 := ⟨ttOk, by kernel_rfl, rfl, mixOk⟩
theorem cs119 (w0 : World) (hJ : J w0) : EnvCts Tryd.prog E119 w0 := by
  intro c hc
  rcases List.mem_cons.1 hc with rfl | hc
  · exact fun w hb => all144 w (J_below hJ hb)
  cases hc
noncomputable def ct119 : Ct := { f := 119, ps := [.v true .ro ls145, .v false .ro [.int .i64]], rs := [(false, [.int .i64])], shared := false, pre := fun (q : Slt × Int) => pSz q.1 q.2, F := fun (q : Slt × Int) => szF q.1 q.2 }
def st119 : List (SzStep Slt) := [.call (fun x : Slt => wd ((x.1, x.2.1, x.2.2.1, x.2.2.2.1, x.2.2.2.2.1, x.2.2.2.2.2.1, x.2.2.2.2.2.2.1) : Sto)) (fun x : Slt => cz ((x.1, x.2.1, x.2.2.1, x.2.2.2.1, x.2.2.2.2.1, x.2.2.2.2.2.1, x.2.2.2.2.2.2.1) : Sto))]
theorem c119 (x : Slt) : szSum x st119 = cz x := by
  simp only [szSum, st119, cz_pair, cz_int, cz_bool, cz_str]
  all_goals omega
theorem w119 (x : Slt) (h : wd x) : szFine x st119 := by
  first | simp only [wd_pair] at h | skip
  simp only [szFine, st119, wd_pair, wf_wd]
  simp only [h, and_self]
theorem law119 : ∀ q : Slt × Int, pSz q.1 q.2 → szSt q.1 st119 q.2 (fun r => r = szF q.1 q.2) := fun q hq => szSt_holds q.1 st119 q.2 _ (w119 q.1 hq.1) hq.2.1 hq.2.2 (c119 q.1)
theorem all119 (w : World) (hJ : J w) : CtAt Tryd.prog ct119 w :=
  ct_by ok119 (cs119 w hJ) Tryd.func119 (by kernel_rfl) (H := (hint [])) law119 (by kernel_rfl)
noncomputable def E79 : Env := { tt, eqs := [], cts := [ct119] }
theorem ok79 : EnvOk Tryd.prog E79 := ⟨ttOk, by kernel_rfl, rfl, mixOk⟩
theorem cs79 (w0 : World) (hJ : J w0) : EnvCts Tryd.prog E79 w0 := by
  intro c hc
  rcases List.mem_cons.1 hc with rfl | hc
  · exact fun w hb => all119 w (J_below hJ hb)
  cases hc
noncomputable def ct79 : Ct := { f := 79, ps := [.v false .ro ls63, .v false .ro [.int .i64]], rs := [(false, [.int .i64])], shared := false, pre := fun (q : (List Slt) × Int) => pSz q.1 q.2, F := fun (q : (List Slt) × Int) => szF q.1 q.2 }
theorem law79 : ∀ q : (List Slt) × Int, pSz q.1 q.2 → szS (α := Slt) Dft.dft (fun y k => pSz y k) (fun y k => szF y k) q.1 q.2 (fun r => r = szF q.1 q.2) := fun q hq => szS_holds (α := Slt) Dft.dft cz wd q.1 q.2 hq.1.1 hq.1.2 hq.2.1 hq.2.2
theorem all79 (w : World) (hJ : J w) : CtAt Tryd.prog ct79 w :=
  ct_by ok79 (cs79 w hJ) Tryd.func79 (by kernel_rfl) (H := (hint [(5, [.val 1 (.int .i64), .val 5 (.int .i64)])])) law79 (by kernel_rfl)
noncomputable def E38 : Env := { tt, eqs := [], cts := [ct79] }
theorem ok38 : EnvOk Tryd.prog E38 := ⟨ttOk, by kernel_rfl, rfl, mixOk⟩
theorem cs38 (w0 : World) (hJ : J w0) : EnvCts Tryd.prog E38 w0 := by
  intro c hc
  rcases List.mem_cons.1 hc with rfl | hc
  · exact fun w hb => all79 w (J_below hJ hb)
  cases hc
noncomputable def ct38 : Ct := { f := 38, ps := [.v true .ro ls65, .v false .ro [.int .i64]], rs := [(false, [.int .i64])], shared := false, pre := fun (q : Shd × Int) => pSz q.1 q.2, F := fun (q : Shd × Int) => szF q.1 q.2 }
def st38 : List (SzStep Shd) := [.call (fun x : Shd => wd (x.2.2.1 : (List Slt))) (fun x : Shd => cz (x.2.2.1 : (List Slt)))]
theorem c38 (x : Shd) : szSum x st38 = cz x := by
  simp only [szSum, st38, cz_pair, cz_int, cz_bool, cz_str]
  all_goals omega
theorem w38 (x : Shd) (h : wd x) : szFine x st38 := by
  first | simp only [wd_pair] at h | skip
  simp only [szFine, st38, wd_pair, wf_wd]
  simp only [h, and_self]
theorem law38 : ∀ q : Shd × Int, pSz q.1 q.2 → szSt q.1 st38 q.2 (fun r => r = szF q.1 q.2) := fun q hq => szSt_holds q.1 st38 q.2 _ (w38 q.1 hq.1) hq.2.1 hq.2.2 (c38 q.1)
theorem all38 (w : World) (hJ : J w) : CtAt Tryd.prog ct38 w :=
  ct_by ok38 (cs38 w hJ) Tryd.func38 (by kernel_rfl) (H := (hint [])) law38 (by kernel_rfl)
noncomputable def E22 : Env := { tt, eqs := [], cts := [ct23] }
theorem ok22 : EnvOk Tryd.prog E22 := ⟨ttOk, by kernel_rfl, rfl, mixOk⟩
theorem cs22 (w0 : World) (hJ : J w0) : EnvCts Tryd.prog E22 w0 := by
  intro c hc
  rcases List.mem_cons.1 hc with rfl | hc
  · exact fun w hb => all23 w (J_below hJ hb)
  cases hc
noncomputable def ct22 : Ct := { f := 22, ps := [.v true .ro ls37], rs := [(true, ls47)], shared := false, pre := fun (x : Rsp) => pTo x, F := fun (x : Rsp) => toF x }
theorem law22 : ∀ q : Rsp, pTo q → conj [pTo (q.2.1 : (List Fld))] (q = toF q) := fun q hq => ⟨(czh (czt hq)), rfl⟩
theorem all22 (w : World) (hJ : J w) : CtAt Tryd.prog ct22 w :=
  ct_by ok22 (cs22 w hJ) Tryd.func22 (by kernel_rfl) (H := (hint [])) law22 (by kernel_rfl)
noncomputable def E145 : Env := { tt, eqs := [], cts := [ct23, ct22] }
theorem ok145 : EnvOk Tryd.prog E145 := ⟨ttOk, by kernel_rfl, rfl, mixOk⟩
theorem cs145 (w0 : World) (hJ : J w0) : EnvCts Tryd.prog E145 w0 := by
  intro c hc
  rcases List.mem_cons.1 hc with rfl | hc
  · exact fun w hb => all23 w (J_below hJ hb)
  rcases List.mem_cons.1 hc with rfl | hc
  · exact fun w hb => all22 w (J_below hJ hb)
  cases hc
noncomputable def ct145 : Ct := { f := 145, ps := [.v true .ro ls143], rs := [(true, ls111)], shared := false, pre := fun (x : Sto) => pTo x, F := fun (x : Sto) => toF x }
theorem law145 : ∀ q : Sto, pTo q → conj [pTo (q.2.1 : (List Fld)), pTo ((q.2.2.1, q.2.2.2.1, q.2.2.2.2.1) : Rsp)] (q = toF q) := fun q hq => ⟨(czh (czt hq)), (czm3 (czt (czt hq))), rfl⟩
theorem all145 (w : World) (hJ : J w) : CtAt Tryd.prog ct145 w :=
  ct_by ok145 (cs145 w hJ) Tryd.func145 (by kernel_rfl) (H := (hint [])) law145 (by kernel_rfl)
noncomputable def E120 : Env := { tt, eqs := [], cts := [ct145] }
theorem ok120 : EnvOk Tryd.prog E120 := ⟨ttOk, by kernel_rfl, rfl, mixOk⟩
theorem cs120 (w0 : World) (hJ : J w0) : EnvCts Tryd.prog E120 w0 := by
  intro c hc
  rcases List.mem_cons.1 hc with rfl | hc
  · exact fun w hb => all145 w (J_below hJ hb)
  cases hc
noncomputable def ct120 : Ct := { f := 120, ps := [.v true .ro ls145], rs := [(true, ls113)], shared := false, pre := fun (x : Slt) => pTo x, F := fun (x : Slt) => toF x }
theorem law120 : ∀ q : Slt, pTo q → conj [pTo ((q.1, q.2.1, q.2.2.1, q.2.2.2.1, q.2.2.2.2.1, q.2.2.2.2.2.1, q.2.2.2.2.2.2.1) : Sto)] (q = toF q) := fun q hq => ⟨(czm7 hq), rfl⟩
theorem all120 (w : World) (hJ : J w) : CtAt Tryd.prog ct120 w :=
  ct_by ok120 (cs120 w hJ) Tryd.func120 (by kernel_rfl) (H := (hint [])) law120 (by kernel_rfl)
noncomputable def E83 : Env := { tt, eqs := [], cts := [ct120] }
theorem ok83 : EnvOk Tryd.prog E83 := ⟨ttOk, by kernel_rfl, rfl, mixOk⟩
theorem cs83 (w0 : World) (hJ : J w0) : EnvCts Tryd.prog E83 w0 := by
  intro c hc
  rcases List.mem_cons.1 hc with rfl | hc
  · exact fun w hb => all120 w (J_below hJ hb)
  cases hc
noncomputable def ct83 : Ct := { f := 83, ps := [.v false .ro ls63], rs := [(false, ls68)], shared := false, pre := fun (x : (List Slt)) => pTo x, F := fun (x : (List Slt)) => toF x }
theorem law83 : ∀ q : (List Slt), pTo q → toS (α := Slt) Dft.dft 112 (fun y => pTo y) q (fun r => r = toF q) := fun q hq => toS_holds (α := Slt) Dft.dft 112 (fun y => pTo y) q (md_len' hq) (by omega) (fun i a h => md_mem hq (List.mem_of_getElem? h)) rfl
theorem all83 (w : World) (hJ : J w) : CtAt Tryd.prog ct83 w :=
  ct_by ok83 (cs83 w hJ) Tryd.func83 (by kernel_rfl) (H := (hint [(3, [.reg 3 113 ls113 true, .val 4 (.int .i64)])])) law83 (by kernel_rfl)
noncomputable def E40 : Env := { tt, eqs := [], cts := [ct83] }
theorem ok40 : EnvOk Tryd.prog E40 := ⟨ttOk, by kernel_rfl, rfl, mixOk⟩
theorem cs40 (w0 : World) (hJ : J w0) : EnvCts Tryd.prog E40 w0 := by
  intro c hc
  rcases List.mem_cons.1 hc with rfl | hc
  · exact fun w hb => all83 w (J_below hJ hb)
  cases hc
noncomputable def ct40 : Ct := { f := 40, ps := [.v true .ro ls65], rs := [(true, ls70)], shared := false, pre := fun (x : Shd) => pTo x, F := fun (x : Shd) => toF x }
theorem law40 : ∀ q : Shd, pTo q → conj [pTo (q.2.2.1 : (List Slt))] (q = toF q) := fun q hq => ⟨(czh (czt (czt hq))), rfl⟩
theorem all40 (w : World) (hJ : J w) : CtAt Tryd.prog ct40 w :=
  ct_by ok40 (cs40 w hJ) Tryd.func40 (by kernel_rfl) (H := (hint [])) law40 (by kernel_rfl)
noncomputable def E80 : Env := { tt, eqs := [], cts := [] }
theorem ok80 : EnvOk Tryd.prog E80 := ⟨ttOk, by kernel_rfl, rfl, mixOk⟩
theorem cs80 (w0 : World) (hJ : J w0) : EnvCts Tryd.prog E80 w0 := by
  intro c hc
  cases hc
noncomputable def ct80 : Ct := { f := 80, ps := [.v true .ro ls70], rs := [(false, ls3)], shared := false, pre := fun (x : Shd) => pFilledS x, F := fun (x : Shd) => mFilledS x }
theorem law80 : ∀ x : Shd, pFilledS x → s_spec_l12Filled x (fun r => r = mFilledS x) := fun x h => spec_l12Filled_ok x h
theorem all80 (w : World) (hJ : J w) : CtAt Tryd.prog ct80 w :=
  ct_by ok80 (cs80 w hJ) Tryd.func80 (by kernel_rfl) (H := (hint [(3, [.val 3 (.int .i64), .val 4 (.int .i64)])])) law80 (by kernel_rfl)
noncomputable def E91 : Env := { tt, eqs := [], cts := [ct54, ct55] }
theorem ok91 : EnvOk Tryd.prog E91 := ⟨ttOk, by kernel_rfl, rfl, mixOk⟩
theorem cs91 (w0 : World) (hJ : J w0) : EnvCts Tryd.prog E91 w0 := by
  intro c hc
  rcases List.mem_cons.1 hc with rfl | hc
  · exact fun w hb => all54 w (J_below hJ hb)
  rcases List.mem_cons.1 hc with rfl | hc
  · exact fun w hb => all55 w (J_below hJ hb)
  cases hc
noncomputable def ct91 : Ct := { f := 91, ps := [.v true .ro ls47], rs := [(false, ls4)], shared := false, pre := fun (x : Rsp) => pResponseOk x, F := fun (x : Rsp) => mResponseOk x }
theorem law91 : ∀ x : Rsp, pResponseOk x → s_spec_ResponseOk x (fun r => r = mResponseOk x) := fun x h => spec_ResponseOk_ok x h
theorem all91 (w : World) (hJ : J w) : CtAt Tryd.prog ct91 w :=
  ct_by ok91 (cs91 w hJ) Tryd.func91 (by kernel_rfl) (H := (hint [])) law91 (by kernel_rfl)
noncomputable def E81 : Env := { tt, eqs := [], cts := [ct53, ct91, ct54] }
theorem ok81 : EnvOk Tryd.prog E81 := ⟨ttOk, by kernel_rfl, rfl, mixOk⟩
theorem cs81 (w0 : World) (hJ : J w0) : EnvCts Tryd.prog E81 w0 := by
  intro c hc
  rcases List.mem_cons.1 hc with rfl | hc
  · exact fun w hb => all53 w (J_below hJ hb)
  rcases List.mem_cons.1 hc with rfl | hc
  · exact fun w hb => all91 w (J_below hJ hb)
  rcases List.mem_cons.1 hc with rfl | hc
  · exact fun w hb => all54 w (J_below hJ hb)
  cases hc
noncomputable def ct81 : Ct := { f := 81, ps := [.v true .ro ls111], rs := [(false, ls4)], shared := false, pre := fun (x : Sto) => pStoredOk x, F := fun (x : Sto) => mStoredOk x }
theorem law81 : ∀ x : Sto, pStoredOk x → s_spec_StoredOk x (fun r => r = mStoredOk x) := fun x h => spec_StoredOk_ok x h
theorem all81 (w : World) (hJ : J w) : CtAt Tryd.prog ct81 w :=
  ct_by ok81 (cs81 w hJ) Tryd.func81 (by kernel_rfl) (H := (hint [])) law81 (by kernel_rfl)
noncomputable def E62 : Env := { tt, eqs := [96], cts := [] }
theorem ok62 : EnvOk Tryd.prog E62 := ⟨ttOk, by kernel_rfl, rfl, mixOk⟩
theorem cs62 (w0 : World) (hJ : J w0) : EnvCts Tryd.prog E62 w0 := by
  intro c hc
  cases hc
noncomputable def ct62 : Ct := { f := 62, ps := [.v false .ro ls42, .v false .ro ls42], rs := [(false, ls4)], shared := false, pre := fun (x : (List Fld) × (List Fld)) => pSameFields x.1 x.2, F := fun (x : (List Fld) × (List Fld)) => mSameFields x.1 x.2 }
theorem law62 : ∀ x : (List Fld) × (List Fld), pSameFields x.1 x.2 → s_spec_SameFields x.1 x.2 (fun r => r = mSameFields x.1 x.2) := fun x h => spec_SameFields_ok x.1 x.2 h
theorem all62 (w : World) (hJ : J w) : CtAt Tryd.prog ct62 w :=
  ct_by ok62 (cs62 w hJ) Tryd.func62 (by kernel_rfl) (H := (hint [(4, [.val 5 (.int .i64)])])) law62 (by kernel_rfl)
noncomputable def E82 : Env := { tt, eqs := [], cts := [ct62] }
theorem ok82 : EnvOk Tryd.prog E82 := ⟨ttOk, by kernel_rfl, rfl, mixOk⟩
theorem cs82 (w0 : World) (hJ : J w0) : EnvCts Tryd.prog E82 w0 := by
  intro c hc
  rcases List.mem_cons.1 hc with rfl | hc
  · exact fun w hb => all62 w (J_below hJ hb)
  cases hc
noncomputable def ct82 : Ct := { f := 82, ps := [.v true .ro ls111, .v true .ro ls111], rs := [(false, ls4)], shared := false, pre := fun (x : Sto × Sto) => pStandAlike x.1 x.2, F := fun (x : Sto × Sto) => mStandAlike x.1 x.2 }
theorem law82 : ∀ x : Sto × Sto, pStandAlike x.1 x.2 → s_spec_l12Same x.1 x.2 (fun r => r = mStandAlike x.1 x.2) := fun x h => spec_l12Same_ok x.1 x.2 h
theorem all82 (w : World) (hJ : J w) : CtAt Tryd.prog ct82 w :=
  ct_by ok82 (cs82 w hJ) Tryd.func82 (by kernel_rfl) (H := (hint [])) law82 (by kernel_rfl)
noncomputable def E39 : Env := { tt, eqs := [], cts := [ct54, ct80, ct81, ct82] }
theorem ok39 : EnvOk Tryd.prog E39 := ⟨ttOk, by kernel_rfl, rfl, mixOk⟩
theorem cs39 (w0 : World) (hJ : J w0) : EnvCts Tryd.prog E39 w0 := by
  intro c hc
  rcases List.mem_cons.1 hc with rfl | hc
  · exact fun w hb => all54 w (J_below hJ hb)
  rcases List.mem_cons.1 hc with rfl | hc
  · exact fun w hb => all80 w (J_below hJ hb)
  rcases List.mem_cons.1 hc with rfl | hc
  · exact fun w hb => all81 w (J_below hJ hb)
  rcases List.mem_cons.1 hc with rfl | hc
  · exact fun w hb => all82 w (J_below hJ hb)
  cases hc
noncomputable def ct39 : Ct := { f := 39, ps := [.v true .ro ls70], rs := [(false, ls4)], shared := false, pre := fun (x : Shd) => pShardOk x, F := fun (x : Shd) => mShardOk x }
theorem law39 : ∀ x : Shd, pShardOk x → s_spec_ShardOk x (fun r => r = mShardOk x) := fun x h => spec_ShardOk_ok x h
theorem all39 (w : World) (hJ : J w) : CtAt Tryd.prog ct39 w :=
  ct_by ok39 (cs39 w hJ) Tryd.func39 (by kernel_rfl) (H := (hint [(6, [.val 3 (.int .i64)]), (11, [.val 4 (.int .i64)])])) law39 (by kernel_rfl)
noncomputable def E84 : Env := { tt, eqs := [], cts := [ct58] }
theorem ok84 : EnvOk Tryd.prog E84 := ⟨ttOk, by kernel_rfl, rfl, mixOk⟩
theorem cs84 (w0 : World) (hJ : J w0) : EnvCts Tryd.prog E84 w0 := by
  intro c hc
  rcases List.mem_cons.1 hc with rfl | hc
  · exact fun w hb => all58 w (J_below hJ hb)
  cases hc
noncomputable def ct84 : Ct := { f := 84, ps := [.v false .ro ls3, .v false .ro ls3], rs := [(false, ls4)], shared := false, pre := fun (x : Int × Int) => pShardSizes x.1 x.2, F := fun (x : Int × Int) => mShardSizes x.1 x.2 }
theorem law84 : ∀ x : Int × Int, pShardSizes x.1 x.2 → s_impl_shardSizes x.1 x.2 (fun r => r = mShardSizes x.1 x.2) := fun x _ => impl_shardSizes_ok x.1 x.2
theorem all84 (w : World) (hJ : J w) : CtAt Tryd.prog ct84 w :=
  ct_by ok84 (cs84 w hJ) Tryd.func84 (by kernel_rfl) (H := (hint [])) law84 (by kernel_rfl)
noncomputable def E125 : Env := { tt, eqs := [], cts := [] }
theorem ok125 : EnvOk Tryd.prog E125 := ⟨ttOk, by kernel_rfl, rfl, mixOk⟩
theorem cs125 (w0 : World) (hJ : J w0) : EnvCts Tryd.prog E125 w0 := by
  intro c hc
  cases hc
noncomputable def ct125 : Ct := { f := 125, ps := [.v false .ro ls3], rs := [(false, ls4)], shared := false, pre := fun (x : Int) => pBodiless x, F := fun (x : Int) => mBodiless x }
theorem law125 : ∀ x : Int, pBodiless x → s_impl_bodiless x (fun r => r = mBodiless x) := fun x _ => impl_bodiless_ok x
theorem all125 (w : World) (hJ : J w) : CtAt Tryd.prog ct125 w :=
  ct_by ok125 (cs125 w hJ) Tryd.func125 (by kernel_rfl) (H := (hint [])) law125 (by kernel_rfl)
noncomputable def E95 : Env := { tt, eqs := [], cts := [ct58, ct59, ct125] }
theorem ok95 : EnvOk Tryd.prog E95 := ⟨ttOk, by kernel_rfl, rfl, mixOk⟩
theorem cs95 (w0 : World) (hJ : J w0) : EnvCts Tryd.prog E95 w0 := by
  intro c hc
  rcases List.mem_cons.1 hc with rfl | hc
  · exact fun w hb => all58 w (J_below hJ hb)
  rcases List.mem_cons.1 hc with rfl | hc
  · exact fun w hb => all59 w (J_below hJ hb)
  rcases List.mem_cons.1 hc with rfl | hc
  · exact fun w hb => all125 w (J_below hJ hb)
  cases hc
noncomputable def ct95 : Ct := { f := 95, ps := [.v true .ro ls47], rs := [(false, ls4)], shared := false, pre := fun (x : Rsp) => pResponseOk x, F := fun (x : Rsp) => mResponseOk x }
theorem law95 : ∀ x : Rsp, pResponseOk x → s_impl_ResponseOk x (fun r => r = mResponseOk x) := fun x h => impl_ResponseOk_ok x h
theorem all95 (w : World) (hJ : J w) : CtAt Tryd.prog ct95 w :=
  ct_by ok95 (cs95 w hJ) Tryd.func95 (by kernel_rfl) (H := (hint [])) law95 (by kernel_rfl)
noncomputable def E85 : Env := { tt, eqs := [], cts := [ct57, ct95, ct58] }
theorem ok85 : EnvOk Tryd.prog E85 := ⟨ttOk, by kernel_rfl, rfl, mixOk⟩
theorem cs85 (w0 : World) (hJ : J w0) : EnvCts Tryd.prog E85 w0 := by
  intro c hc
  rcases List.mem_cons.1 hc with rfl | hc
  · exact fun w hb => all57 w (J_below hJ hb)
  rcases List.mem_cons.1 hc with rfl | hc
  · exact fun w hb => all95 w (J_below hJ hb)
  rcases List.mem_cons.1 hc with rfl | hc
  · exact fun w hb => all58 w (J_below hJ hb)
  cases hc
noncomputable def ct85 : Ct := { f := 85, ps := [.v true .ro ls111], rs := [(false, ls4)], shared := false, pre := fun (x : Sto) => pStoredOk x, F := fun (x : Sto) => mStoredOk x }
theorem law85 : ∀ x : Sto, pStoredOk x → s_impl_StoredOk x (fun r => r = mStoredOk x) := fun x h => impl_StoredOk_ok x h
theorem all85 (w : World) (hJ : J w) : CtAt Tryd.prog ct85 w :=
  ct_by ok85 (cs85 w hJ) Tryd.func85 (by kernel_rfl) (H := (hint [])) law85 (by kernel_rfl)
noncomputable def E108 : Env := { tt, eqs := [96], cts := [] }
theorem ok108 : EnvOk Tryd.prog E108 := ⟨ttOk, by kernel_rfl, rfl, mixOk⟩
theorem cs108 (w0 : World) (hJ : J w0) : EnvCts Tryd.prog E108 w0 := by
  intro c hc
  cases hc
noncomputable def ct108 : Ct := { f := 108, ps := [.v false .ro ls42, .v false .ro ls42], rs := [(false, ls4)], shared := false, pre := fun (x : (List Fld) × (List Fld)) => pEqual_Field x.1 x.2, F := fun (x : (List Fld) × (List Fld)) => mEqual_Field x.1 x.2 }
theorem law108 : ∀ x : (List Fld) × (List Fld), pEqual_Field x.1 x.2 → s_slices_Equal_Field x.1 x.2 (fun r => r = mEqual_Field x.1 x.2) := fun x h => slices_Equal_Field_ok x.1 x.2 h
theorem all108 (w : World) (hJ : J w) : CtAt Tryd.prog ct108 w :=
  ct_by ok108 (cs108 w hJ) Tryd.func108 (by kernel_rfl) (H := (hint [(4, [.val 13 (.int .i64)])])) law108 (by kernel_rfl)
noncomputable def E64 : Env := { tt, eqs := [], cts := [ct108] }
theorem ok64 : EnvOk Tryd.prog E64 := ⟨ttOk, by kernel_rfl, rfl, mixOk⟩
theorem cs64 (w0 : World) (hJ : J w0) : EnvCts Tryd.prog E64 w0 := by
  intro c hc
  rcases List.mem_cons.1 hc with rfl | hc
  · exact fun w hb => all108 w (J_below hJ hb)
  cases hc
noncomputable def ct64 : Ct := { f := 64, ps := [.v false .ro ls42, .v false .ro ls42], rs := [(false, ls4)], shared := false, pre := fun (x : (List Fld) × (List Fld)) => pSameFields x.1 x.2, F := fun (x : (List Fld) × (List Fld)) => mSameFields x.1 x.2 }
theorem law64 : ∀ x : (List Fld) × (List Fld), pSameFields x.1 x.2 → s_impl_SameFields x.1 x.2 (fun r => r = mSameFields x.1 x.2) := fun x h => impl_SameFields_ok x.1 x.2 h
theorem all64 (w : World) (hJ : J w) : CtAt Tryd.prog ct64 w :=
  ct_by ok64 (cs64 w hJ) Tryd.func64 (by kernel_rfl) (H := (hint [])) law64 (by kernel_rfl)
noncomputable def E88 : Env := { tt, eqs := [], cts := [ct64] }
theorem ok88 : EnvOk Tryd.prog E88 := ⟨ttOk, by kernel_rfl, rfl, mixOk⟩
theorem cs88 (w0 : World) (hJ : J w0) : EnvCts Tryd.prog E88 w0 := by
  intro c hc
  rcases List.mem_cons.1 hc with rfl | hc
  · exact fun w hb => all64 w (J_below hJ hb)
  cases hc
noncomputable def ct88 : Ct := { f := 88, ps := [.v true .ro ls111, .v true .ro ls111], rs := [(false, ls4)], shared := false, pre := fun (x : Sto × Sto) => pStandAlike x.1 x.2, F := fun (x : Sto × Sto) => mStandAlike x.1 x.2 }
theorem law88 : ∀ x : Sto × Sto, pStandAlike x.1 x.2 → s_impl_standAlike x.1 x.2 (fun r => r = mStandAlike x.1 x.2) := fun x h => impl_standAlike_ok x.1 x.2 h
theorem all88 (w : World) (hJ : J w) : CtAt Tryd.prog ct88 w :=
  ct_by ok88 (cs88 w hJ) Tryd.func88 (by kernel_rfl) (H := (hint [])) law88 (by kernel_rfl)
noncomputable def E87 : Env := { tt, eqs := [], cts := [ct88] }
theorem ok87 : EnvOk Tryd.prog E87 := ⟨ttOk, by kernel_rfl, rfl, mixOk⟩
theorem cs87 (w0 : World) (hJ : J w0) : EnvCts Tryd.prog E87 w0 := by
  intro c hc
  rcases List.mem_cons.1 hc with rfl | hc
  · exact fun w hb => all88 w (J_below hJ hb)
  cases hc
noncomputable def ct87 : Ct := { f := 87, ps := [.v true .ro ls113, .p false ls113], rs := [(false, ls4)], shared := false, pre := fun (x : Slt × Slt) => pShardOk_1 x.1 x.2, F := fun (x : Slt × Slt) => mShardOk_1 x.1 x.2 }
theorem law87 : ∀ x : Slt × Slt, pShardOk_1 x.1 x.2 → s_impl_ShardOk_1 x.1 x.2 (fun r => r = mShardOk_1 x.1 x.2) := fun x h => impl_ShardOk_1_ok x.1 x.2 h
theorem all87 (w : World) (hJ : J w) : CtAt Tryd.prog ct87 w :=
  ct_by ok87 (cs87 w hJ) Tryd.func87 (by kernel_rfl) (H := (hint [])) law87 (by kernel_rfl)
noncomputable def E121_87 : Env := { tt, eqs := [], cts := [ct87] }
theorem ok121_87 : EnvOk Tryd.prog E121_87 := ⟨ttOk, by kernel_rfl, rfl, mixOk⟩
theorem cs121_87 (w0 : World) (hJ : J w0) : EnvCts Tryd.prog E121_87 w0 := by
  intro c hc
  rcases List.mem_cons.1 hc with rfl | hc
  · exact fun w hb => all87 w (J_below hJ hb)
  cases hc
noncomputable def ct121_87 : Ct := { f := 121, ps := [.v false .ro ls68, .c 87 [ls113]], rs := [(false, ls3)], shared := false, pre := fun (x : (List Slt) × Slt) => pIndexFunc_ShardOk_1 x.1 x.2, F := fun (x : (List Slt) × Slt) => mIndexFunc_ShardOk_1 x.1 x.2 }
theorem law121_87 : ∀ x : (List Slt) × Slt, pIndexFunc_ShardOk_1 x.1 x.2 → s_IndexFunc_ShardOk_1 x.1 x.2 (fun r => r = mIndexFunc_ShardOk_1 x.1 x.2) := fun x h => IndexFunc_ShardOk_1_ok x.1 x.2 h
theorem all121_87 (w : World) (hJ : J w) : CtAt Tryd.prog ct121_87 w :=
  ct_by ok121_87 (cs121_87 w hJ) Tryd.func121 (by kernel_rfl) (H := (hint [(2, [.val 8 (.int .i64)])])) law121_87 (by kernel_rfl)
noncomputable def E86_87 : Env := { tt, eqs := [], cts := [ct121_87] }
theorem ok86_87 : EnvOk Tryd.prog E86_87 := ⟨ttOk, by kernel_rfl, rfl, mixOk⟩
theorem cs86_87 (w0 : World) (hJ : J w0) : EnvCts Tryd.prog E86_87 w0 := by
  intro c hc
  rcases List.mem_cons.1 hc with rfl | hc
  · exact fun w hb => all121_87 w (J_below hJ hb)
  cases hc
noncomputable def ct86_87 : Ct := { f := 86, ps := [.v false .ro ls68, .c 87 [ls113]], rs := [(false, ls4)], shared := false, pre := fun (x : (List Slt) × Slt) => pContainsFunc_ShardOk_1 x.1 x.2, F := fun (x : (List Slt) × Slt) => mContainsFunc_ShardOk_1 x.1 x.2 }
theorem law86_87 : ∀ x : (List Slt) × Slt, pContainsFunc_ShardOk_1 x.1 x.2 → s_ContainsFunc_ShardOk_1 x.1 x.2 (fun r => r = mContainsFunc_ShardOk_1 x.1 x.2) := fun x h => ContainsFunc_ShardOk_1_ok x.1 x.2 h
theorem all86_87 (w : World) (hJ : J w) : CtAt Tryd.prog ct86_87 w :=
  ct_by ok86_87 (cs86_87 w hJ) Tryd.func86 (by kernel_rfl) (H := (hint [])) law86_87 (by kernel_rfl)
noncomputable def E89 : Env := { tt, eqs := [], cts := [] }
theorem ok89 : EnvOk Tryd.prog E89 := ⟨ttOk, by kernel_rfl, rfl, mixOk⟩
theorem cs89 (w0 : World) (hJ : J w0) : EnvCts Tryd.prog E89 w0 := by
  intro c hc
  cases hc
noncomputable def ct89 : Ct := { f := 89, ps := [.v false .ro ls68], rs := [(false, ls3)], shared := false, pre := fun (x : (List Slt)) => pBodies x, F := fun (x : (List Slt)) => mBodies x }
theorem law89 : ∀ x : (List Slt), pBodies x → s_impl_bodies x (fun r => r = mBodies x) := fun x h => impl_bodies_ok x h
theorem all89 (w : World) (hJ : J w) : CtAt Tryd.prog ct89 w :=
  ct_by ok89 (cs89 w hJ) Tryd.func89 (by kernel_rfl) (H := (hint [(3, [.val 3 (.int .i64), .val 8 (.int .i64)])])) law89 (by kernel_rfl)
noncomputable def E41 : Env := { tt, eqs := [], cts := [ct84, ct58, ct85, ct86_87, ct89] }
theorem ok41 : EnvOk Tryd.prog E41 := ⟨ttOk, by kernel_rfl, rfl, mixOk⟩
theorem cs41 (w0 : World) (hJ : J w0) : EnvCts Tryd.prog E41 w0 := by
  intro c hc
  rcases List.mem_cons.1 hc with rfl | hc
  · exact fun w hb => all84 w (J_below hJ hb)
  rcases List.mem_cons.1 hc with rfl | hc
  · exact fun w hb => all58 w (J_below hJ hb)
  rcases List.mem_cons.1 hc with rfl | hc
  · exact fun w hb => all85 w (J_below hJ hb)
  rcases List.mem_cons.1 hc with rfl | hc
  · exact fun w hb => all86_87 w (J_below hJ hb)
  rcases List.mem_cons.1 hc with rfl | hc
  · exact fun w hb => all89 w (J_below hJ hb)
  cases hc
noncomputable def ct41 : Ct := { f := 41, ps := [.v true .ro ls70], rs := [(false, ls4)], shared := false, pre := fun (x : Shd) => pShardOk x, F := fun (x : Shd) => mShardOk x }
theorem law41 : ∀ x : Shd, pShardOk x → s_impl_ShardOk x (fun r => r = mShardOk x) := fun x h => impl_ShardOk_ok x h
theorem all41 (w : World) (hJ : J w) : CtAt Tryd.prog ct41 w :=
  ct_by ok41 (cs41 w hJ) Tryd.func41 (by kernel_rfl) (H := (hint [(4, [.val 37 (.int .i64)])])) law41 (by kernel_rfl)
noncomputable def E26 : Env := { tt, eqs := [], cts := [ct27] }
theorem ok26 : EnvOk Tryd.prog E26 := ⟨ttOk, by kernel_rfl, rfl, mixOk⟩
theorem cs26 (w0 : World) (hJ : J w0) : EnvCts Tryd.prog E26 w0 := by
  intro c hc
  rcases List.mem_cons.1 hc with rfl | hc
  · exact fun w hb => all27 w (J_below hJ hb)
  cases hc
noncomputable def ct26 : Ct := { f := 26, ps := [.v true .ro ls47, .v true .ro ls47], rs := [(false, [.bool])], shared := false, pre := fun (q : Rsp × Rsp) => pEq q.1 q.2, F := fun (q : Rsp × Rsp) => eqF q.1 q.2 }
def st26 : List (EqStep Rsp) := [.ne (fun (x y : Rsp) => x.1 ≠ y.1), .call (fun (x _ : Rsp) => wd (x.2.1 : (List Fld))) (fun (x y : Rsp) => eqF (x.2.1 : (List Fld)) y.2.1), .ne (fun (x y : Rsp) => x.2.2 ≠ y.2.2)]
def mk26 (a0 : Int) (a1 : (List Fld)) (a2 : S) : Rsp := (a0, a1, a2)
theorem a26 (x y : Rsp) : eqAll x y st26 ↔ x = y := by
  constructor
  · rintro ⟨h0, h1, h2, -⟩
    have h0 : x.1 = y.1 := Classical.byContradiction h0
    have h1 : (x.2.1 : (List Fld)) = y.2.1 := eqF_iff.1 h1
    have h2 : x.2.2 = y.2.2 := Classical.byContradiction h2
    show mk26 (x.1) (x.2.1) (x.2.2) = mk26 (y.1) (y.2.1) (y.2.2)
    rw [h0, h1, h2]
    all_goals rfl
  · rintro rfl
    exact ⟨fun h => h rfl, eqF_iff.2 rfl, fun h => h rfl, trivial⟩
theorem w26 (x y : Rsp) (h : wd x) : eqFine x y st26 := by
  first | simp only [wd_pair] at h | skip
  simp only [eqFine, st26, wd_pair]
  all_goals simp only [h, and_self]
theorem law26 : ∀ q : Rsp × Rsp, pEq q.1 q.2 → eqSt q.1 q.2 st26 (fun r => r = eqF q.1 q.2) := fun q hq => eqSt_holds q.1 q.2 st26 (w26 q.1 q.2 hq) (eqF_iff.trans (a26 q.1 q.2).symm)
theorem all26 (w : World) (hJ : J w) : CtAt Tryd.prog ct26 w :=
  ct_by ok26 (cs26 w hJ) Tryd.func26 (by kernel_rfl) (H := (hint [])) law26 (by kernel_rfl)
noncomputable def E146 : Env := { tt, eqs := [], cts := [ct27, ct26] }
theorem ok146 : EnvOk Tryd.prog E146 := ⟨ttOk, by kernel_rfl, rfl, mixOk⟩
theorem cs146 (w0 : World) (hJ : J w0) : EnvCts Tryd.prog E146 w0 := by
  intro c hc
  rcases List.mem_cons.1 hc with rfl | hc
  · exact fun w hb => all27 w (J_below hJ hb)
  rcases List.mem_cons.1 hc with rfl | hc
  · exact fun w hb => all26 w (J_below hJ hb)
  cases hc
noncomputable def ct146 : Ct := { f := 146, ps := [.v true .ro ls111, .v true .ro ls111], rs := [(false, [.bool])], shared := false, pre := fun (q : Sto × Sto) => pEq q.1 q.2, F := fun (q : Sto × Sto) => eqF q.1 q.2 }
def st146 : List (EqStep Sto) := [.ne (fun (x y : Sto) => x.1 ≠ y.1), .call (fun (x _ : Sto) => wd (x.2.1 : (List Fld))) (fun (x y : Sto) => eqF (x.2.1 : (List Fld)) y.2.1), .call (fun (x _ : Sto) => wd ((x.2.2.1, x.2.2.2.1, x.2.2.2.2.1) : Rsp)) (fun (x y : Sto) => eqF ((x.2.2.1, x.2.2.2.1, x.2.2.2.2.1) : Rsp) (y.2.2.1, y.2.2.2.1, y.2.2.2.2.1)), .ne (fun (x y : Sto) => x.2.2.2.2.2.1 ≠ y.2.2.2.2.2.1), .ne (fun (x y : Sto) => x.2.2.2.2.2.2 ≠ y.2.2.2.2.2.2)]
def mk146 (a0 : S) (a1 : (List Fld)) (a2 : Rsp) (a3 : Int) (a4 : Int) : Sto := (a0, a1, a2.1, a2.2.1, a2.2.2, a3, a4)
theorem a146 (x y : Sto) : eqAll x y st146 ↔ x = y := by
  constructor
  · rintro ⟨h0, h1, h2, h3, h4, -⟩
    have h0 : x.1 = y.1 := Classical.byContradiction h0
    have h1 : (x.2.1 : (List Fld)) = y.2.1 := eqF_iff.1 h1
    have h2 : ((x.2.2.1, x.2.2.2.1, x.2.2.2.2.1) : Rsp) = (y.2.2.1, y.2.2.2.1, y.2.2.2.2.1) := eqF_iff.1 h2
    have h3 : x.2.2.2.2.2.1 = y.2.2.2.2.2.1 := Classical.byContradiction h3
    have h4 : x.2.2.2.2.2.2 = y.2.2.2.2.2.2 := Classical.byContradiction h4
    show mk146 (x.1) (x.2.1) ((x.2.2.1, x.2.2.2.1, x.2.2.2.2.1)) (x.2.2.2.2.2.1) (x.2.2.2.2.2.2) = mk146 (y.1) (y.2.1) ((y.2.2.1, y.2.2.2.1, y.2.2.2.2.1)) (y.2.2.2.2.2.1) (y.2.2.2.2.2.2)
    rw [h0, h1, h2, h3, h4]
    all_goals rfl
  · rintro rfl
    exact ⟨fun h => h rfl, eqF_iff.2 rfl, eqF_iff.2 rfl, fun h => h rfl, fun h => h rfl, trivial⟩
theorem w146 (x y : Sto) (h : wd x) : eqFine x y st146 := by
  first | simp only [wd_pair] at h | skip
  simp only [eqFine, st146, wd_pair]
  all_goals simp only [h, and_self]
theorem law146 : ∀ q : Sto × Sto, pEq q.1 q.2 → eqSt q.1 q.2 st146 (fun r => r = eqF q.1 q.2) := fun q hq => eqSt_holds q.1 q.2 st146 (w146 q.1 q.2 hq) (eqF_iff.trans (a146 q.1 q.2).symm)
theorem all146 (w : World) (hJ : J w) : CtAt Tryd.prog ct146 w :=
  ct_by ok146 (cs146 w hJ) Tryd.func146 (by kernel_rfl) (H := (hint [])) law146 (by kernel_rfl)
noncomputable def E122 : Env := { tt, eqs := [], cts := [ct146] }
theorem ok122 : EnvOk Tryd.prog E122 := ⟨ttOk, by kernel_rfl, rfl, mixOk⟩
theorem cs122 (w0 : World) (hJ : J w0) : EnvCts Tryd.prog E122 w0 := by
  intro c hc
  rcases List.mem_cons.1 hc with rfl | hc
  · exact fun w hb => all146 w (J_below hJ hb)
  cases hc
noncomputable def ct122 : Ct := { f := 122, ps := [.v true .ro ls113, .v true .ro ls113], rs := [(false, [.bool])], shared := false, pre := fun (q : Slt × Slt) => pEq q.1 q.2, F := fun (q : Slt × Slt) => eqF q.1 q.2 }
def st122 : List (EqStep Slt) := [.call (fun (x _ : Slt) => wd ((x.1, x.2.1, x.2.2.1, x.2.2.2.1, x.2.2.2.2.1, x.2.2.2.2.2.1, x.2.2.2.2.2.2.1) : Sto)) (fun (x y : Slt) => eqF ((x.1, x.2.1, x.2.2.1, x.2.2.2.1, x.2.2.2.2.1, x.2.2.2.2.2.1, x.2.2.2.2.2.2.1) : Sto) (y.1, y.2.1, y.2.2.1, y.2.2.2.1, y.2.2.2.2.1, y.2.2.2.2.2.1, y.2.2.2.2.2.2.1)), .ne (fun (x y : Slt) => x.2.2.2.2.2.2.2 ≠ y.2.2.2.2.2.2.2)]
def mk122 (a0 : Sto) (a1 : Bool) : Slt := (a0.1, a0.2.1, a0.2.2.1, a0.2.2.2.1, a0.2.2.2.2.1, a0.2.2.2.2.2.1, a0.2.2.2.2.2.2, a1)
theorem a122 (x y : Slt) : eqAll x y st122 ↔ x = y := by
  constructor
  · rintro ⟨h0, h1, -⟩
    have h0 : ((x.1, x.2.1, x.2.2.1, x.2.2.2.1, x.2.2.2.2.1, x.2.2.2.2.2.1, x.2.2.2.2.2.2.1) : Sto) = (y.1, y.2.1, y.2.2.1, y.2.2.2.1, y.2.2.2.2.1, y.2.2.2.2.2.1, y.2.2.2.2.2.2.1) := eqF_iff.1 h0
    have h1 : x.2.2.2.2.2.2.2 = y.2.2.2.2.2.2.2 := Classical.byContradiction h1
    show mk122 ((x.1, x.2.1, x.2.2.1, x.2.2.2.1, x.2.2.2.2.1, x.2.2.2.2.2.1, x.2.2.2.2.2.2.1)) (x.2.2.2.2.2.2.2) = mk122 ((y.1, y.2.1, y.2.2.1, y.2.2.2.1, y.2.2.2.2.1, y.2.2.2.2.2.1, y.2.2.2.2.2.2.1)) (y.2.2.2.2.2.2.2)
    rw [h0, h1]
    all_goals rfl
  · rintro rfl
    exact ⟨eqF_iff.2 rfl, fun h => h rfl, trivial⟩
theorem w122 (x y : Slt) (h : wd x) : eqFine x y st122 := by
  first | simp only [wd_pair] at h | skip
  simp only [eqFine, st122, wd_pair]
  all_goals simp only [h, and_self]
theorem law122 : ∀ q : Slt × Slt, pEq q.1 q.2 → eqSt q.1 q.2 st122 (fun r => r = eqF q.1 q.2) := fun q hq => eqSt_holds q.1 q.2 st122 (w122 q.1 q.2 hq) (eqF_iff.trans (a122 q.1 q.2).symm)
theorem all122 (w : World) (hJ : J w) : CtAt Tryd.prog ct122 w :=
  ct_by ok122 (cs122 w hJ) Tryd.func122 (by kernel_rfl) (H := (hint [])) law122 (by kernel_rfl)
noncomputable def E90 : Env := { tt, eqs := [], cts := [ct122] }
theorem ok90 : EnvOk Tryd.prog E90 := ⟨ttOk, by kernel_rfl, rfl, mixOk⟩
theorem cs90 (w0 : World) (hJ : J w0) : EnvCts Tryd.prog E90 w0 := by
  intro c hc
  rcases List.mem_cons.1 hc with rfl | hc
  · exact fun w hb => all122 w (J_below hJ hb)
  cases hc
noncomputable def ct90 : Ct := { f := 90, ps := [.v false .ro ls68, .v false .ro ls68], rs := [(false, [.bool])], shared := false, pre := fun (q : (List Slt) × (List Slt)) => pEq q.1 q.2, F := fun (q : (List Slt) × (List Slt)) => eqF q.1 q.2 }
theorem law90 : ∀ q : (List Slt) × (List Slt), pEq q.1 q.2 → eqS (α := Slt) Dft.dft (fun a b => pEq a b) (fun a b => eqF a b) q.1 q.2 (fun r => r = eqF q.1 q.2) := fun q hq => eqS_holds (α := Slt) Dft.dft (fun a b => pEq a b) (fun a b => eqF a b) q.1 q.2 hq.1 (fun i a _ h => hq.2 i a h) (fun _ _ => eqF_iff) eqF_iff
theorem all90 (w : World) (hJ : J w) : CtAt Tryd.prog ct90 w :=
  ct_by ok90 (cs90 w hJ) Tryd.func90 (by kernel_rfl) (H := (hint [(4, [.val 5 (.int .i64)])])) law90 (by kernel_rfl)
noncomputable def E42 : Env := { tt, eqs := [], cts := [ct90] }
theorem ok42 : EnvOk Tryd.prog E42 := ⟨ttOk, by kernel_rfl, rfl, mixOk⟩
theorem cs42 (w0 : World) (hJ : J w0) : EnvCts Tryd.prog E42 w0 := by
  intro c hc
  rcases List.mem_cons.1 hc with rfl | hc
  · exact fun w hb => all90 w (J_below hJ hb)
  cases hc
noncomputable def ct42 : Ct := { f := 42, ps := [.v true .ro ls70, .v true .ro ls70], rs := [(false, [.bool])], shared := false, pre := fun (q : Shd × Shd) => pEq q.1 q.2, F := fun (q : Shd × Shd) => eqF q.1 q.2 }
def st42 : List (EqStep Shd) := [.ne (fun (x y : Shd) => x.1 ≠ y.1), .ne (fun (x y : Shd) => x.2.1 ≠ y.2.1), .call (fun (x _ : Shd) => wd (x.2.2.1 : (List Slt))) (fun (x y : Shd) => eqF (x.2.2.1 : (List Slt)) y.2.2.1), .ne (fun (x y : Shd) => x.2.2.2 ≠ y.2.2.2)]
def mk42 (a0 : Int) (a1 : Int) (a2 : (List Slt)) (a3 : Int) : Shd := (a0, a1, a2, a3)
theorem a42 (x y : Shd) : eqAll x y st42 ↔ x = y := by
  constructor
  · rintro ⟨h0, h1, h2, h3, -⟩
    have h0 : x.1 = y.1 := Classical.byContradiction h0
    have h1 : x.2.1 = y.2.1 := Classical.byContradiction h1
    have h2 : (x.2.2.1 : (List Slt)) = y.2.2.1 := eqF_iff.1 h2
    have h3 : x.2.2.2 = y.2.2.2 := Classical.byContradiction h3
    show mk42 (x.1) (x.2.1) (x.2.2.1) (x.2.2.2) = mk42 (y.1) (y.2.1) (y.2.2.1) (y.2.2.2)
    rw [h0, h1, h2, h3]
    all_goals rfl
  · rintro rfl
    exact ⟨fun h => h rfl, fun h => h rfl, eqF_iff.2 rfl, fun h => h rfl, trivial⟩
theorem w42 (x y : Shd) (h : wd x) : eqFine x y st42 := by
  first | simp only [wd_pair] at h | skip
  simp only [eqFine, st42, wd_pair]
  all_goals simp only [h, and_self]
theorem law42 : ∀ q : Shd × Shd, pEq q.1 q.2 → eqSt q.1 q.2 st42 (fun r => r = eqF q.1 q.2) := fun q hq => eqSt_holds q.1 q.2 st42 (w42 q.1 q.2 hq) (eqF_iff.trans (a42 q.1 q.2).symm)
theorem all42 (w : World) (hJ : J w) : CtAt Tryd.prog ct42 w :=
  ct_by ok42 (cs42 w hJ) Tryd.func42 (by kernel_rfl) (H := (hint [])) law42 (by kernel_rfl)
noncomputable def E43 : Env := { tt, eqs := [], cts := [ct39, ct80] }
theorem ok43 : EnvOk Tryd.prog E43 := ⟨ttOk, by kernel_rfl, rfl, mixOk⟩
theorem cs43 (w0 : World) (hJ : J w0) : EnvCts Tryd.prog E43 w0 := by
  intro c hc
  rcases List.mem_cons.1 hc with rfl | hc
  · exact fun w hb => all39 w (J_below hJ hb)
  rcases List.mem_cons.1 hc with rfl | hc
  · exact fun w hb => all80 w (J_below hJ hb)
  cases hc
noncomputable def ct43 : Ct := { f := 43, ps := [.v true .ro ls70], rs := [(false, ls3)], shared := false, pre := fun (x : Shd) => pFilled x, F := fun (x : Shd) => mFilled x }
theorem law43 : ∀ x : Shd, pFilled x → s_spec_Filled x (fun r => r = mFilled x) := fun x h => spec_Filled_ok x h
theorem all43 (w : World) (hJ : J w) : CtAt Tryd.prog ct43 w :=
  ct_by ok43 (cs43 w hJ) Tryd.func43 (by kernel_rfl) (H := (hint [])) law43 (by kernel_rfl)
noncomputable def E44 : Env := { tt, eqs := [], cts := [ct41, ct89] }
theorem ok44 : EnvOk Tryd.prog E44 := ⟨ttOk, by kernel_rfl, rfl, mixOk⟩
theorem cs44 (w0 : World) (hJ : J w0) : EnvCts Tryd.prog E44 w0 := by
  intro c hc
  rcases List.mem_cons.1 hc with rfl | hc
  · exact fun w hb => all41 w (J_below hJ hb)
  rcases List.mem_cons.1 hc with rfl | hc
  · exact fun w hb => all89 w (J_below hJ hb)
  cases hc
noncomputable def ct44 : Ct := { f := 44, ps := [.v true .ro ls70], rs := [(false, ls3)], shared := false, pre := fun (x : Shd) => pFilled x, F := fun (x : Shd) => mFilled x }
theorem law44 : ∀ x : Shd, pFilled x → s_impl_Filled x (fun r => r = mFilled x) := fun x h => impl_Filled_ok x h
theorem all44 (w : World) (hJ : J w) : CtAt Tryd.prog ct44 w :=
  ct_by ok44 (cs44 w hJ) Tryd.func44 (by kernel_rfl) (H := (hint [])) law44 (by kernel_rfl)
noncomputable def E17 : Env := { tt, eqs := [], cts := [ct19] }
theorem ok17 : EnvOk Tryd.prog E17 := ⟨ttOk, by kernel_rfl, rfl, mixOk⟩
theorem cs17 (w0 : World) (hJ : J w0) : EnvCts Tryd.prog E17 w0 := by
  intro c hc
  rcases List.mem_cons.1 hc with rfl | hc
  · exact fun w hb => all19 w (J_below hJ hb)
  cases hc
noncomputable def ct17 : Ct := { f := 17, ps := [.v true .ro ls35, .v false .ro [.int .i64]], rs := [(false, [.int .i64])], shared := false, pre := fun (q : Req × Int) => pSz q.1 q.2, F := fun (q : Req × Int) => szF q.1 q.2 }
def st17 : List (SzStep Req) := [.str (fun x : Req => x.1), .str (fun x : Req => x.2.1), .call (fun x : Req => wd (x.2.2.1 : (List Fld))) (fun x : Req => cz (x.2.2.1 : (List Fld))), .str (fun x : Req => x.2.2.2)]
theorem c17 (x : Req) : szSum x st17 = cz x := by
  simp only [szSum, st17, cz_pair, cz_int, cz_bool, cz_str]
  all_goals omega
theorem w17 (x : Req) (h : wd x) : szFine x st17 := by
  first | simp only [wd_pair] at h | skip
  simp only [szFine, st17, wd_pair, wf_wd]
  simp only [h, and_self]
theorem law17 : ∀ q : Req × Int, pSz q.1 q.2 → szSt q.1 st17 q.2 (fun r => r = szF q.1 q.2) := fun q hq => szSt_holds q.1 st17 q.2 _ (w17 q.1 hq.1) hq.2.1 hq.2.2 (c17 q.1)
theorem all17 (w : World) (hJ : J w) : CtAt Tryd.prog ct17 w :=
  ct_by ok17 (cs17 w hJ) Tryd.func17 (by kernel_rfl) (H := (hint [])) law17 (by kernel_rfl)
noncomputable def E21 : Env := { tt, eqs := [], cts := [ct23] }
theorem ok21 : EnvOk Tryd.prog E21 := ⟨ttOk, by kernel_rfl, rfl, mixOk⟩
theorem cs21 (w0 : World) (hJ : J w0) : EnvCts Tryd.prog E21 w0 := by
  intro c hc
  rcases List.mem_cons.1 hc with rfl | hc
  · exact fun w hb => all23 w (J_below hJ hb)
  cases hc
noncomputable def ct21 : Ct := { f := 21, ps := [.v true .ro ls35], rs := [(true, ls44)], shared := false, pre := fun (x : Req) => pTo x, F := fun (x : Req) => toF x }
theorem law21 : ∀ q : Req, pTo q → conj [pTo (q.2.2.1 : (List Fld))] (q = toF q) := fun q hq => ⟨(czh (czt (czt hq))), rfl⟩
theorem all21 (w : World) (hJ : J w) : CtAt Tryd.prog ct21 w :=
  ct_by ok21 (cs21 w hJ) Tryd.func21 (by kernel_rfl) (H := (hint [])) law21 (by kernel_rfl)
noncomputable def E92 : Env := { tt, eqs := [], cts := [ct123] }
theorem ok92 : EnvOk Tryd.prog E92 := ⟨ttOk, by kernel_rfl, rfl, mixOk⟩
theorem cs92 (w0 : World) (hJ : J w0) : EnvCts Tryd.prog E92 w0 := by
  intro c hc
  rcases List.mem_cons.1 hc with rfl | hc
  · exact fun w hb => all123 w (J_below hJ hb)
  cases hc
noncomputable def ct92 : Ct := { f := 92, ps := [.v false .ro ls9], rs := [(false, ls99)], shared := false, pre := fun (x : S) => pSplitList x, F := fun (x : S) => mSplitList x }
theorem law92 : ∀ x : S, pSplitList x → s_spec_SplitList x (fun r => r = mSplitList x) := fun x h => spec_SplitList_ok x h
theorem all92 (w : World) (hJ : J w) : CtAt Tryd.prog ct92 w :=
  ct_by ok92 (cs92 w hJ) Tryd.func92 (by kernel_rfl) (H := (hint [(5, [.reg 3 9 [.str] true, .val 4 (.int .i64), .val 5 (.bool), .val 6 (.int .i64)])])) law92 (by kernel_rfl)
noncomputable def E66 : Env := { tt, eqs := [], cts := [ct67, ct92, ct109] }
theorem ok66 : EnvOk Tryd.prog E66 := ⟨ttOk, by kernel_rfl, rfl, mixOk⟩
theorem cs66 (w0 : World) (hJ : J w0) : EnvCts Tryd.prog E66 w0 := by
  intro c hc
  rcases List.mem_cons.1 hc with rfl | hc
  · exact fun w hb => all67 w (J_below hJ hb)
  rcases List.mem_cons.1 hc with rfl | hc
  · exact fun w hb => all92 w (J_below hJ hb)
  rcases List.mem_cons.1 hc with rfl | hc
  · exact fun w hb => all109 w (J_below hJ hb)
  cases hc
noncomputable def ct66 : Ct := { f := 66, ps := [.v true .ro ls47], rs := [(false, ls99)], shared := false, pre := fun (x : Rsp) => pVaryNames x, F := fun (x : Rsp) => mVaryNames x }
theorem law66 : ∀ x : Rsp, pVaryNames x → s_spec_VaryNames x (fun r => r = mVaryNames x) := fun x h => spec_VaryNames_ok x h
theorem all66 (w : World) (hJ : J w) : CtAt Tryd.prog ct66 w :=
  ct_by ok66 (cs66 w hJ) Tryd.func66 (by kernel_rfl) (H := (hint [(5, [.reg 3 9 [.str] true, .val 7 (.int .i64)]), (10, [.val 9 (.bool), .val 10 (.int .i64)])])) law66 (by kernel_rfl)
noncomputable def E68 : Env := { tt, eqs := [], cts := [ct92] }
theorem ok68 : EnvOk Tryd.prog E68 := ⟨ttOk, by kernel_rfl, rfl, mixOk⟩
theorem cs68 (w0 : World) (hJ : J w0) : EnvCts Tryd.prog E68 w0 := by
  intro c hc
  rcases List.mem_cons.1 hc with rfl | hc
  · exact fun w hb => all92 w (J_below hJ hb)
  cases hc
noncomputable def ct68 : Ct := { f := 68, ps := [.v false .ro ls9], rs := [(false, ls9)], shared := false, pre := fun (x : S) => pNormal x, F := fun (x : S) => mNormal x }
theorem law68 : ∀ x : S, pNormal x → s_spec_Normal x (fun r => r = mNormal x) := fun x h => spec_Normal_ok x h
theorem all68 (w : World) (hJ : J w) : CtAt Tryd.prog ct68 w :=
  ct_by ok68 (cs68 w hJ) Tryd.func68 (by kernel_rfl) (H := (hint [(4, [.val 4 (.str), .val 5 (.int .i64)])])) law68 (by kernel_rfl)
noncomputable def E28 : Env := { tt, eqs := [], cts := [ct66, ct67, ct68] }
theorem ok28 : EnvOk Tryd.prog E28 := ⟨ttOk, by kernel_rfl, rfl, mixOk⟩
theorem cs28 (w0 : World) (hJ : J w0) : EnvCts Tryd.prog E28 w0 := by
  intro c hc
  rcases List.mem_cons.1 hc with rfl | hc
  · exact fun w hb => all66 w (J_below hJ hb)
  rcases List.mem_cons.1 hc with rfl | hc
  · exact fun w hb => all67 w (J_below hJ hb)
  rcases List.mem_cons.1 hc with rfl | hc
  · exact fun w hb => all68 w (J_below hJ hb)
  cases hc
noncomputable def ct28 : Ct := { f := 28, ps := [.v true .ro ls44, .v true .ro ls47], rs := [(false, ls42)], shared := false, pre := fun (x : Req × Rsp) => pPicked x.1 x.2, F := fun (x : Req × Rsp) => mPicked x.1 x.2 }
theorem law28 : ∀ x : Req × Rsp, pPicked x.1 x.2 → s_spec_Picked x.1 x.2 (fun r => r = mPicked x.1 x.2) := fun x h => spec_Picked_ok x.1 x.2 h
theorem all28 (w : World) (hJ : J w) : CtAt Tryd.prog ct28 w :=
  ct_by ok28 (cs28 w hJ) Tryd.func28 (by kernel_rfl) (H := (hint [(4, [.reg 5 96 [.str, .str] true, .val 7 (.int .i64)])])) law28 (by kernel_rfl)
noncomputable def E20 : Env := { tt, eqs := [], cts := [ct28, ct62] }
theorem ok20 : EnvOk Tryd.prog E20 := ⟨ttOk, by kernel_rfl, rfl, mixOk⟩
theorem cs20 (w0 : World) (hJ : J w0) : EnvCts Tryd.prog E20 w0 := by
  intro c hc
  rcases List.mem_cons.1 hc with rfl | hc
  · exact fun w hb => all28 w (J_below hJ hb)
  rcases List.mem_cons.1 hc with rfl | hc
  · exact fun w hb => all62 w (J_below hJ hb)
  cases hc
noncomputable def ct20 : Ct := { f := 20, ps := [.v true .ro ls44, .v true .ro ls47, .v false .ro ls42], rs := [(false, ls4)], shared := false, pre := fun (x : Req × Rsp × (List Fld)) => pVaryFits x.1 x.2.1 x.2.2, F := fun (x : Req × Rsp × (List Fld)) => mVaryFits x.1 x.2.1 x.2.2 }
theorem law20 : ∀ x : Req × Rsp × (List Fld), pVaryFits x.1 x.2.1 x.2.2 → s_spec_VaryFits x.1 x.2.1 x.2.2 (fun r => r = mVaryFits x.1 x.2.1 x.2.2) := fun x h => spec_VaryFits_ok x.1 x.2.1 x.2.2 h
theorem all20 (w : World) (hJ : J w) : CtAt Tryd.prog ct20 w :=
  ct_by ok20 (cs20 w hJ) Tryd.func20 (by kernel_rfl) (H := (hint [])) law20 (by kernel_rfl)
noncomputable def E127 : Env := { tt, eqs := [], cts := [] }
theorem ok127 : EnvOk Tryd.prog E127 := ⟨ttOk, by kernel_rfl, rfl, mixOk⟩
theorem cs127 (w0 : World) (hJ : J w0) : EnvCts Tryd.prog E127 w0 := by
  intro c hc
  cases hc
noncomputable def ct127 : Ct := { f := 127, ps := [.v false .ro ls9], rs := [(false, ls150)], shared := false, pre := fun (x : S) => pCommas x, F := fun (x : S) => mCommas x }
theorem law127 : ∀ x : S, pCommas x → s_impl_commas x (fun r => r = mCommas x) := fun x h => impl_commas_ok x h
theorem all127 (w : World) (hJ : J w) : CtAt Tryd.prog ct127 w :=
  ct_by ok127 (cs127 w hJ) Tryd.func127 (by kernel_rfl) (H := (hint [(4, [.reg 3 3 [.int .i64] true, .val 4 (.bool), .val 5 (.int .i64)])])) law127 (by kernel_rfl)
noncomputable def E97 : Env := { tt, eqs := [], cts := [ct127, ct128] }
theorem ok97 : EnvOk Tryd.prog E97 := ⟨ttOk, by kernel_rfl, rfl, mixOk⟩
theorem cs97 (w0 : World) (hJ : J w0) : EnvCts Tryd.prog E97 w0 := by
  intro c hc
  rcases List.mem_cons.1 hc with rfl | hc
  · exact fun w hb => all127 w (J_below hJ hb)
  rcases List.mem_cons.1 hc with rfl | hc
  · exact fun w hb => all128 w (J_below hJ hb)
  cases hc
noncomputable def ct97 : Ct := { f := 97, ps := [.v false .ro ls9], rs := [(false, ls99)], shared := false, pre := fun (x : S) => pSplitList x, F := fun (x : S) => mSplitList x }
theorem law97 : ∀ x : S, pSplitList x → s_impl_SplitList x (fun r => r = mSplitList x) := fun x h => impl_SplitList_ok x h
theorem all97 (w : World) (hJ : J w) : CtAt Tryd.prog ct97 w :=
  ct_by ok97 (cs97 w hJ) Tryd.func97 (by kernel_rfl) (H := (hint [(4, [.reg 3 9 [.str] true, .val 4 (.int .i64), .val 16 (.int .i64)])])) law97 (by kernel_rfl)
noncomputable def E126 : Env := { tt, eqs := [], cts := [] }
theorem ok126 : EnvOk Tryd.prog E126 := ⟨ttOk, by kernel_rfl, rfl, mixOk⟩
theorem cs126 (w0 : World) (hJ : J w0) : EnvCts Tryd.prog E126 w0 := by
  intro c hc
  cases hc
noncomputable def ct126 : Ct := { f := 126, ps := [.v false .ro ls99, .v false .ro ls9], rs := [(false, ls3)], shared := false, pre := fun (x : (List S) × S) => pIndex_string x.1 x.2, F := fun (x : (List S) × S) => mIndex_string x.1 x.2 }
theorem law126 : ∀ x : (List S) × S, pIndex_string x.1 x.2 → s_slices_Index_string x.1 x.2 (fun r => r = mIndex_string x.1 x.2) := fun x h => slices_Index_string_ok x.1 x.2 h
theorem all126 (w : World) (hJ : J w) : CtAt Tryd.prog ct126 w :=
  ct_by ok126 (cs126 w hJ) Tryd.func126 (by kernel_rfl) (H := (hint [(2, [.val 8 (.int .i64)])])) law126 (by kernel_rfl)
noncomputable def E96 : Env := { tt, eqs := [], cts := [ct126] }
theorem ok96 : EnvOk Tryd.prog E96 := ⟨ttOk, by kernel_rfl, rfl, mixOk⟩
theorem cs96 (w0 : World) (hJ : J w0) : EnvCts Tryd.prog E96 w0 := by
  intro c hc
  rcases List.mem_cons.1 hc with rfl | hc
  · exact fun w hb => all126 w (J_below hJ hb)
  cases hc
noncomputable def ct96 : Ct := { f := 96, ps := [.v false .ro ls99, .v false .ro ls9], rs := [(false, ls4)], shared := false, pre := fun (x : (List S) × S) => pContains_string x.1 x.2, F := fun (x : (List S) × S) => mContains_string x.1 x.2 }
theorem law96 : ∀ x : (List S) × S, pContains_string x.1 x.2 → s_slices_Contains_string x.1 x.2 (fun r => r = mContains_string x.1 x.2) := fun x h => slices_Contains_string_ok x.1 x.2 h
theorem all96 (w : World) (hJ : J w) : CtAt Tryd.prog ct96 w :=
  ct_by ok96 (cs96 w hJ) Tryd.func96 (by kernel_rfl) (H := (hint [])) law96 (by kernel_rfl)
noncomputable def E69 : Env := { tt, eqs := [], cts := [ct70, ct97, ct110, ct96] }
theorem ok69 : EnvOk Tryd.prog E69 := ⟨ttOk, by kernel_rfl, rfl, mixOk⟩
theorem cs69 (w0 : World) (hJ : J w0) : EnvCts Tryd.prog E69 w0 := by
  intro c hc
  rcases List.mem_cons.1 hc with rfl | hc
  · exact fun w hb => all70 w (J_below hJ hb)
  rcases List.mem_cons.1 hc with rfl | hc
  · exact fun w hb => all97 w (J_below hJ hb)
  rcases List.mem_cons.1 hc with rfl | hc
  · exact fun w hb => all110 w (J_below hJ hb)
  rcases List.mem_cons.1 hc with rfl | hc
  · exact fun w hb => all96 w (J_below hJ hb)
  cases hc
noncomputable def ct69 : Ct := { f := 69, ps := [.v true .ro ls47], rs := [(false, ls99)], shared := false, pre := fun (x : Rsp) => pVaryNames x, F := fun (x : Rsp) => mVaryNames x }
theorem law69 : ∀ x : Rsp, pVaryNames x → s_impl_VaryNames x (fun r => r = mVaryNames x) := fun x h => impl_VaryNames_ok x h
theorem all69 (w : World) (hJ : J w) : CtAt Tryd.prog ct69 w :=
  ct_by ok69 (cs69 w hJ) Tryd.func69 (by kernel_rfl) (H := (hint [(4, [.reg 5 9 [.str] true, .val 19 (.int .i64)])])) law69 (by kernel_rfl)
noncomputable def E71 : Env := { tt, eqs := [], cts := [ct97, ct111] }
theorem ok71 : EnvOk Tryd.prog E71 := ⟨ttOk, by kernel_rfl, rfl, mixOk⟩
theorem cs71 (w0 : World) (hJ : J w0) : EnvCts Tryd.prog E71 w0 := by
  intro c hc
  rcases List.mem_cons.1 hc with rfl | hc
  · exact fun w hb => all97 w (J_below hJ hb)
  rcases List.mem_cons.1 hc with rfl | hc
  · exact fun w hb => all111 w (J_below hJ hb)
  cases hc
noncomputable def ct71 : Ct := { f := 71, ps := [.v false .ro ls9], rs := [(false, ls9)], shared := false, pre := fun (x : S) => pNormal x, F := fun (x : S) => mNormal x }
theorem law71 : ∀ x : S, pNormal x → s_impl_Normal x (fun r => r = mNormal x) := fun x h => impl_Normal_ok x h
theorem all71 (w : World) (hJ : J w) : CtAt Tryd.prog ct71 w :=
  ct_by ok71 (cs71 w hJ) Tryd.func71 (by kernel_rfl) (H := (hint [])) law71 (by kernel_rfl)
noncomputable def E29 : Env := { tt, eqs := [], cts := [ct69, ct70, ct71] }
theorem ok29 : EnvOk Tryd.prog E29 := ⟨ttOk, by kernel_rfl, rfl, mixOk⟩
theorem cs29 (w0 : World) (hJ : J w0) : EnvCts Tryd.prog E29 w0 := by
  intro c hc
  rcases List.mem_cons.1 hc with rfl | hc
  · exact fun w hb => all69 w (J_below hJ hb)
  rcases List.mem_cons.1 hc with rfl | hc
  · exact fun w hb => all70 w (J_below hJ hb)
  rcases List.mem_cons.1 hc with rfl | hc
  · exact fun w hb => all71 w (J_below hJ hb)
  cases hc
noncomputable def ct29 : Ct := { f := 29, ps := [.v true .ro ls44, .v true .ro ls47], rs := [(false, ls42)], shared := false, pre := fun (x : Req × Rsp) => pPicked x.1 x.2, F := fun (x : Req × Rsp) => mPicked x.1 x.2 }
theorem law29 : ∀ x : Req × Rsp, pPicked x.1 x.2 → s_impl_Picked x.1 x.2 (fun r => r = mPicked x.1 x.2) := fun x h => impl_Picked_ok x.1 x.2 h
theorem all29 (w : World) (hJ : J w) : CtAt Tryd.prog ct29 w :=
  ct_by ok29 (cs29 w hJ) Tryd.func29 (by kernel_rfl) (H := (hint [(3, [.reg 5 96 [.str, .str] true, .val 14 (.int .i64)])])) law29 (by kernel_rfl)
noncomputable def E24 : Env := { tt, eqs := [], cts := [ct29, ct64] }
theorem ok24 : EnvOk Tryd.prog E24 := ⟨ttOk, by kernel_rfl, rfl, mixOk⟩
theorem cs24 (w0 : World) (hJ : J w0) : EnvCts Tryd.prog E24 w0 := by
  intro c hc
  rcases List.mem_cons.1 hc with rfl | hc
  · exact fun w hb => all29 w (J_below hJ hb)
  rcases List.mem_cons.1 hc with rfl | hc
  · exact fun w hb => all64 w (J_below hJ hb)
  cases hc
noncomputable def ct24 : Ct := { f := 24, ps := [.v true .ro ls44, .v true .ro ls47, .v false .ro ls42], rs := [(false, ls4)], shared := false, pre := fun (x : Req × Rsp × (List Fld)) => pVaryFits x.1 x.2.1 x.2.2, F := fun (x : Req × Rsp × (List Fld)) => mVaryFits x.1 x.2.1 x.2.2 }
theorem law24 : ∀ x : Req × Rsp × (List Fld), pVaryFits x.1 x.2.1 x.2.2 → s_impl_VaryFits x.1 x.2.1 x.2.2 (fun r => r = mVaryFits x.1 x.2.1 x.2.2) := fun x h => impl_VaryFits_ok x.1 x.2.1 x.2.2 h
theorem all24 (w : World) (hJ : J w) : CtAt Tryd.prog ct24 w :=
  ct_by ok24 (cs24 w hJ) Tryd.func24 (by kernel_rfl) (H := (hint [])) law24 (by kernel_rfl)
noncomputable def E25 : Env := { tt, eqs := [], cts := [ct27] }
theorem ok25 : EnvOk Tryd.prog E25 := ⟨ttOk, by kernel_rfl, rfl, mixOk⟩
theorem cs25 (w0 : World) (hJ : J w0) : EnvCts Tryd.prog E25 w0 := by
  intro c hc
  rcases List.mem_cons.1 hc with rfl | hc
  · exact fun w hb => all27 w (J_below hJ hb)
  cases hc
noncomputable def ct25 : Ct := { f := 25, ps := [.v true .ro ls44, .v true .ro ls44], rs := [(false, [.bool])], shared := false, pre := fun (q : Req × Req) => pEq q.1 q.2, F := fun (q : Req × Req) => eqF q.1 q.2 }
def st25 : List (EqStep Req) := [.ne (fun (x y : Req) => x.1 ≠ y.1), .ne (fun (x y : Req) => x.2.1 ≠ y.2.1), .call (fun (x _ : Req) => wd (x.2.2.1 : (List Fld))) (fun (x y : Req) => eqF (x.2.2.1 : (List Fld)) y.2.2.1), .ne (fun (x y : Req) => x.2.2.2 ≠ y.2.2.2)]
def mk25 (a0 : S) (a1 : S) (a2 : (List Fld)) (a3 : S) : Req := (a0, a1, a2, a3)
theorem a25 (x y : Req) : eqAll x y st25 ↔ x = y := by
  constructor
  · rintro ⟨h0, h1, h2, h3, -⟩
    have h0 : x.1 = y.1 := Classical.byContradiction h0
    have h1 : x.2.1 = y.2.1 := Classical.byContradiction h1
    have h2 : (x.2.2.1 : (List Fld)) = y.2.2.1 := eqF_iff.1 h2
    have h3 : x.2.2.2 = y.2.2.2 := Classical.byContradiction h3
    show mk25 (x.1) (x.2.1) (x.2.2.1) (x.2.2.2) = mk25 (y.1) (y.2.1) (y.2.2.1) (y.2.2.2)
    rw [h0, h1, h2, h3]
    all_goals rfl
  · rintro rfl
    exact ⟨fun h => h rfl, fun h => h rfl, eqF_iff.2 rfl, fun h => h rfl, trivial⟩
theorem w25 (x y : Req) (h : wd x) : eqFine x y st25 := by
  first | simp only [wd_pair] at h | skip
  simp only [eqFine, st25, wd_pair]
  all_goals simp only [h, and_self]
theorem law25 : ∀ q : Req × Req, pEq q.1 q.2 → eqSt q.1 q.2 st25 (fun r => r = eqF q.1 q.2) := fun q hq => eqSt_holds q.1 q.2 st25 (w25 q.1 q.2 hq) (eqF_iff.trans (a25 q.1 q.2).symm)
theorem all25 (w : World) (hJ : J w) : CtAt Tryd.prog ct25 w :=
  ct_by ok25 (cs25 w hJ) Tryd.func25 (by kernel_rfl) (H := (hint [])) law25 (by kernel_rfl)
noncomputable def E137 : Env := { tt, eqs := [], cts := [] }
theorem ok137 : EnvOk Tryd.prog E137 := ⟨ttOk, by kernel_rfl, rfl, mixOk⟩
theorem cs137 (w0 : World) (hJ : J w0) : EnvCts Tryd.prog E137 w0 := by
  intro c hc
  cases hc
noncomputable def ct137 : Ct := { f := 137, ps := [.v false .ro ls9], rs := [(false, ls9)], shared := false, pre := fun (x : S) => pL7Unquote x, F := fun (x : S) => mL7Unquote x }
theorem law137 : ∀ x : S, pL7Unquote x → s_spec_l7Unquote x (fun r => r = mL7Unquote x) := fun x h => spec_l7Unquote_ok x h
theorem all137 (w : World) (hJ : J w) : CtAt Tryd.prog ct137 w :=
  ct_by ok137 (cs137 w hJ) Tryd.func137 (by kernel_rfl) (H := (hint [])) law137 (by kernel_rfl)
noncomputable def E112 : Env := { tt, eqs := [], cts := [ct67, ct92, ct136, ct109, ct137] }
theorem ok112 : EnvOk Tryd.prog E112 := ⟨ttOk, by kernel_rfl, rfl, mixOk⟩
theorem cs112 (w0 : World) (hJ : J w0) : EnvCts Tryd.prog E112 w0 := by
  intro c hc
  rcases List.mem_cons.1 hc with rfl | hc
  · exact fun w hb => all67 w (J_below hJ hb)
  rcases List.mem_cons.1 hc with rfl | hc
  · exact fun w hb => all92 w (J_below hJ hb)
  rcases List.mem_cons.1 hc with rfl | hc
  · exact fun w hb => all136 w (J_below hJ hb)
  rcases List.mem_cons.1 hc with rfl | hc
  · exact fun w hb => all109 w (J_below hJ hb)
  rcases List.mem_cons.1 hc with rfl | hc
  · exact fun w hb => all137 w (J_below hJ hb)
  cases hc
noncomputable def ct112 : Ct := { f := 112, ps := [.v false .ro ls42], rs := [(false, ls132)], shared := false, pre := fun (x : (List Fld)) => pDirectives x, F := fun (x : (List Fld)) => mDirectives x }
theorem law112 : ∀ x : (List Fld), pDirectives x → s_spec_Directives x (fun r => r = mDirectives x) := fun x h => spec_Directives_ok x h
theorem all112 (w : World) (hJ : J w) : CtAt Tryd.prog ct112 w :=
  ct_by ok112 (cs112 w hJ) Tryd.func112 (by kernel_rfl) (H := (hint [(5, [.reg 3 134 [.str, .str] true, .val 7 (.int .i64)]), (9, [.val 9 (.int .i64)])])) law112 (by kernel_rfl)
noncomputable def E73 : Env := { tt, eqs := [], cts := [ct112] }
theorem ok73 : EnvOk Tryd.prog E73 := ⟨ttOk, by kernel_rfl, rfl, mixOk⟩
theorem cs73 (w0 : World) (hJ : J w0) : EnvCts Tryd.prog E73 w0 := by
  intro c hc
  rcases List.mem_cons.1 hc with rfl | hc
  · exact fun w hb => all112 w (J_below hJ hb)
  cases hc
noncomputable def ct73 : Ct := { f := 73, ps := [.v false .ro ls42, .v false .ro ls9], rs := [(false, ls4)], shared := false, pre := fun (x : (List Fld) × S) => pCcHas x.1 x.2, F := fun (x : (List Fld) × S) => mCcHas x.1 x.2 }
theorem law73 : ∀ x : (List Fld) × S, pCcHas x.1 x.2 → s_spec_CcHas x.1 x.2 (fun r => r = mCcHas x.1 x.2) := fun x h => spec_CcHas_ok x.1 x.2 h
theorem all73 (w : World) (hJ : J w) : CtAt Tryd.prog ct73 w :=
  ct_by ok73 (cs73 w hJ) Tryd.func73 (by kernel_rfl) (H := (hint [(3, [.val 6 (.int .i64)])])) law73 (by kernel_rfl)
noncomputable def E34 : Env := { tt, eqs := [], cts := [ct73] }
theorem ok34 : EnvOk Tryd.prog E34 := ⟨ttOk, by kernel_rfl, rfl, mixOk⟩
theorem cs34 (w0 : World) (hJ : J w0) : EnvCts Tryd.prog E34 w0 := by
  intro c hc
  rcases List.mem_cons.1 hc with rfl | hc
  · exact fun w hb => all73 w (J_below hJ hb)
  cases hc
noncomputable def ct34 : Ct := { f := 34, ps := [.v true .ro ls44], rs := [(false, ls4)], shared := false, pre := fun (x : Req) => pOnlyStored x, F := fun (x : Req) => mOnlyStored x }
theorem law34 : ∀ x : Req, pOnlyStored x → s_spec_OnlyStored x (fun r => r = mOnlyStored x) := fun x h => spec_OnlyStored_ok x h
theorem all34 (w : World) (hJ : J w) : CtAt Tryd.prog ct34 w :=
  ct_by ok34 (cs34 w hJ) Tryd.func34 (by kernel_rfl) (H := (hint [])) law34 (by kernel_rfl)
noncomputable def ct139 : Ct := cutCt 139
theorem all139 (w : World) (hJ : J w) : CtAt Tryd.prog ct139 w := cut_ct ⟨_, Tryd.func139, by kernel_rfl, by kernel_rfl⟩ (fun s sep h => hJ.1.elim fun m hm => Tryd.strings_Cut s sep m w h hm)
noncomputable def E114 : Env := { tt, eqs := [], cts := [ct70, ct97, ct139, ct140, ct110] }
theorem ok114 : EnvOk Tryd.prog E114 := ⟨ttOk, by kernel_rfl, rfl, mixOk⟩
theorem cs114 (w0 : World) (hJ : J w0) : EnvCts Tryd.prog E114 w0 := by
  intro c hc
  rcases List.mem_cons.1 hc with rfl | hc
  · exact fun w hb => all70 w (J_below hJ hb)
  rcases List.mem_cons.1 hc with rfl | hc
  · exact fun w hb => all97 w (J_below hJ hb)
  rcases List.mem_cons.1 hc with rfl | hc
  · exact fun w hb => all139 w (J_below hJ hb)
  rcases List.mem_cons.1 hc with rfl | hc
  · exact fun w hb => all140 w (J_below hJ hb)
  rcases List.mem_cons.1 hc with rfl | hc
  · exact fun w hb => all110 w (J_below hJ hb)
  cases hc
noncomputable def ct114 : Ct := { f := 114, ps := [.v false .ro ls42], rs := [(false, ls132)], shared := false, pre := fun (x : (List Fld)) => pDirectives x, F := fun (x : (List Fld)) => mDirectives x }
theorem law114 : ∀ x : (List Fld), pDirectives x → s_impl_Directives x (fun r => r = mDirectives x) := fun x h => impl_Directives_ok x h
theorem all114 (w : World) (hJ : J w) : CtAt Tryd.prog ct114 w :=
  ct_by ok114 (cs114 w hJ) Tryd.func114 (by kernel_rfl) (H := (hint [(4, [.reg 5 134 [.str, .str] true, .val 20 (.int .i64)])])) law114 (by kernel_rfl)
noncomputable def E115 : Env := { tt, eqs := [], cts := [] }
theorem ok115 : EnvOk Tryd.prog E115 := ⟨ttOk, by kernel_rfl, rfl, mixOk⟩
theorem cs115 (w0 : World) (hJ : J w0) : EnvCts Tryd.prog E115 w0 := by
  intro c hc
  cases hc
noncomputable def ct115 : Ct := { f := 115, ps := [.v true .ro ls134, .p false ls9], rs := [(false, ls4)], shared := false, pre := fun (x : Fld × S) => pCcHas_1 x.1 x.2, F := fun (x : Fld × S) => mCcHas_1 x.1 x.2 }
theorem law115 : ∀ x : Fld × S, pCcHas_1 x.1 x.2 → s_impl_CcHas_1 x.1 x.2 (fun r => r = mCcHas_1 x.1 x.2) := fun x h => impl_CcHas_1_ok x.1 x.2 h
theorem all115 (w : World) (hJ : J w) : CtAt Tryd.prog ct115 w :=
  ct_by ok115 (cs115 w hJ) Tryd.func115 (by kernel_rfl) (H := (hint [])) law115 (by kernel_rfl)
noncomputable def E138_115 : Env := { tt, eqs := [], cts := [ct115] }
theorem ok138_115 : EnvOk Tryd.prog E138_115 := ⟨ttOk, by kernel_rfl, rfl, mixOk⟩
theorem cs138_115 (w0 : World) (hJ : J w0) : EnvCts Tryd.prog E138_115 w0 := by
  intro c hc
  rcases List.mem_cons.1 hc with rfl | hc
  · exact fun w hb => all115 w (J_below hJ hb)
  cases hc
noncomputable def ct138_115 : Ct := { f := 138, ps := [.v false .ro ls132, .c 115 [ls9]], rs := [(false, ls3)], shared := false, pre := fun (x : (List Fld) × S) => pIndexFunc_CcHas_1 x.1 x.2, F := fun (x : (List Fld) × S) => mIndexFunc_CcHas_1 x.1 x.2 }
theorem law138_115 : ∀ x : (List Fld) × S, pIndexFunc_CcHas_1 x.1 x.2 → s_IndexFunc_CcHas_1 x.1 x.2 (fun r => r = mIndexFunc_CcHas_1 x.1 x.2) := fun x h => IndexFunc_CcHas_1_ok x.1 x.2 h
theorem all138_115 (w : World) (hJ : J w) : CtAt Tryd.prog ct138_115 w :=
  ct_by ok138_115 (cs138_115 w hJ) Tryd.func138 (by kernel_rfl) (H := (hint [(2, [.val 8 (.int .i64)])])) law138_115 (by kernel_rfl)
noncomputable def E113_115 : Env := { tt, eqs := [], cts := [ct138_115] }
theorem ok113_115 : EnvOk Tryd.prog E113_115 := ⟨ttOk, by kernel_rfl, rfl, mixOk⟩
theorem cs113_115 (w0 : World) (hJ : J w0) : EnvCts Tryd.prog E113_115 w0 := by
  intro c hc
  rcases List.mem_cons.1 hc with rfl | hc
  · exact fun w hb => all138_115 w (J_below hJ hb)
  cases hc
noncomputable def ct113_115 : Ct := { f := 113, ps := [.v false .ro ls132, .c 115 [ls9]], rs := [(false, ls4)], shared := false, pre := fun (x : (List Fld) × S) => pContainsFunc_CcHas_1 x.1 x.2, F := fun (x : (List Fld) × S) => mContainsFunc_CcHas_1 x.1 x.2 }
theorem law113_115 : ∀ x : (List Fld) × S, pContainsFunc_CcHas_1 x.1 x.2 → s_ContainsFunc_CcHas_1 x.1 x.2 (fun r => r = mContainsFunc_CcHas_1 x.1 x.2) := fun x h => ContainsFunc_CcHas_1_ok x.1 x.2 h
theorem all113_115 (w : World) (hJ : J w) : CtAt Tryd.prog ct113_115 w :=
  ct_by ok113_115 (cs113_115 w hJ) Tryd.func113 (by kernel_rfl) (H := (hint [])) law113_115 (by kernel_rfl)
noncomputable def E74 : Env := { tt, eqs := [], cts := [ct114, ct113_115] }
theorem ok74 : EnvOk Tryd.prog E74 := ⟨ttOk, by kernel_rfl, rfl, mixOk⟩
theorem cs74 (w0 : World) (hJ : J w0) : EnvCts Tryd.prog E74 w0 := by
  intro c hc
  rcases List.mem_cons.1 hc with rfl | hc
  · exact fun w hb => all114 w (J_below hJ hb)
  rcases List.mem_cons.1 hc with rfl | hc
  · exact fun w hb => all113_115 w (J_below hJ hb)
  cases hc
noncomputable def ct74 : Ct := { f := 74, ps := [.v false .ro ls42, .v false .ro ls9], rs := [(false, ls4)], shared := false, pre := fun (x : (List Fld) × S) => pCcHas x.1 x.2, F := fun (x : (List Fld) × S) => mCcHas x.1 x.2 }
theorem law74 : ∀ x : (List Fld) × S, pCcHas x.1 x.2 → s_impl_CcHas x.1 x.2 (fun r => r = mCcHas x.1 x.2) := fun x h => impl_CcHas_ok x.1 x.2 h
theorem all74 (w : World) (hJ : J w) : CtAt Tryd.prog ct74 w :=
  ct_by ok74 (cs74 w hJ) Tryd.func74 (by kernel_rfl) (H := (hint [])) law74 (by kernel_rfl)
noncomputable def E35 : Env := { tt, eqs := [], cts := [ct74] }
theorem ok35 : EnvOk Tryd.prog E35 := ⟨ttOk, by kernel_rfl, rfl, mixOk⟩
theorem cs35 (w0 : World) (hJ : J w0) : EnvCts Tryd.prog E35 w0 := by
  intro c hc
  rcases List.mem_cons.1 hc with rfl | hc
  · exact fun w hb => all74 w (J_below hJ hb)
  cases hc
noncomputable def ct35 : Ct := { f := 35, ps := [.v true .ro ls44], rs := [(false, ls4)], shared := false, pre := fun (x : Req) => pOnlyStored x, F := fun (x : Req) => mOnlyStored x }
theorem law35 : ∀ x : Req, pOnlyStored x → s_impl_OnlyStored x (fun r => r = mOnlyStored x) := fun x h => impl_OnlyStored_ok x h
theorem all35 (w : World) (hJ : J w) : CtAt Tryd.prog ct35 w :=
  ct_by ok35 (cs35 w hJ) Tryd.func35 (by kernel_rfl) (H := (hint [])) law35 (by kernel_rfl)
noncomputable def E124 : Env := { tt, eqs := [], cts := [] }
theorem ok124 : EnvOk Tryd.prog E124 := ⟨ttOk, by kernel_rfl, rfl, mixOk⟩
theorem cs124 (w0 : World) (hJ : J w0) : EnvCts Tryd.prog E124 w0 := by
  intro c hc
  cases hc
noncomputable def ct124 : Ct := { f := 124, ps := [.v false .ro ls150, .v false .ro ls3], rs := [(false, ls4)], shared := false, pre := fun (x : (List Int) × Int) => pL4Has x.1 x.2, F := fun (x : (List Int) × Int) => mL4Has x.1 x.2 }
theorem law124 : ∀ x : (List Int) × Int, pL4Has x.1 x.2 → s_spec_l4Has x.1 x.2 (fun r => r = mL4Has x.1 x.2) := fun x h => spec_l4Has_ok x.1 x.2 h
theorem all124 (w : World) (hJ : J w) : CtAt Tryd.prog ct124 w :=
  ct_by ok124 (cs124 w hJ) Tryd.func124 (by kernel_rfl) (H := (hint [(2, [.val 5 (.int .i64)])])) law124 (by kernel_rfl)
noncomputable def E93 : Env := { tt, eqs := [], cts := [ct124] }
theorem ok93 : EnvOk Tryd.prog E93 := ⟨ttOk, by kernel_rfl, rfl, mixOk⟩
theorem cs93 (w0 : World) (hJ : J w0) : EnvCts Tryd.prog E93 w0 := by
  intro c hc
  rcases List.mem_cons.1 hc with rfl | hc
  · exact fun w hb => all124 w (J_below hJ hb)
  cases hc
noncomputable def ct93 : Ct := { f := 93, ps := [.v false .ro ls3], rs := [(false, ls4)], shared := false, pre := fun (x : Int) => pHeuristic x, F := fun (x : Int) => mHeuristic x }
theorem law93 : ∀ x : Int, pHeuristic x → s_spec_Heuristic x (fun r => r = mHeuristic x) := fun x _ => spec_Heuristic_ok x
theorem all93 (w : World) (hJ : J w) : CtAt Tryd.prog ct93 w :=
  ct_by ok93 (cs93 w hJ) Tryd.func93 (by kernel_rfl) (H := (hint [])) law93 (by kernel_rfl)
noncomputable def E45 : Env := { tt, eqs := [], cts := [ct91, ct73, ct67, ct92, ct93] }
theorem ok45 : EnvOk Tryd.prog E45 := ⟨ttOk, by kernel_rfl, rfl, mixOk⟩
theorem cs45 (w0 : World) (hJ : J w0) : EnvCts Tryd.prog E45 w0 := by
  intro c hc
  rcases List.mem_cons.1 hc with rfl | hc
  · exact fun w hb => all91 w (J_below hJ hb)
  rcases List.mem_cons.1 hc with rfl | hc
  · exact fun w hb => all73 w (J_below hJ hb)
  rcases List.mem_cons.1 hc with rfl | hc
  · exact fun w hb => all67 w (J_below hJ hb)
  rcases List.mem_cons.1 hc with rfl | hc
  · exact fun w hb => all92 w (J_below hJ hb)
  rcases List.mem_cons.1 hc with rfl | hc
  · exact fun w hb => all93 w (J_below hJ hb)
  cases hc
noncomputable def ct45 : Ct := { f := 45, ps := [.v true .ro ls44, .v true .ro ls47], rs := [(false, ls4)], shared := false, pre := fun (x : Req × Rsp) => pStorable x.1 x.2, F := fun (x : Req × Rsp) => mStorable x.1 x.2 }
theorem law45 : ∀ x : Req × Rsp, pStorable x.1 x.2 → s_spec_Storable x.1 x.2 (fun r => r = mStorable x.1 x.2) := fun x h => spec_Storable_ok x.1 x.2 h
theorem all45 (w : World) (hJ : J w) : CtAt Tryd.prog ct45 w :=
  ct_by ok45 (cs45 w hJ) Tryd.func45 (by kernel_rfl) (H := (hint [(8, [.val 8 (.int .i64)])])) law45 (by kernel_rfl)
noncomputable def E94 : Env := { tt, eqs := [], cts := [ct74] }
theorem ok94 : EnvOk Tryd.prog E94 := ⟨ttOk, by kernel_rfl, rfl, mixOk⟩
theorem cs94 (w0 : World) (hJ : J w0) : EnvCts Tryd.prog E94 w0 := by
  intro c hc
  rcases List.mem_cons.1 hc with rfl | hc
  · exact fun w hb => all74 w (J_below hJ hb)
  cases hc
noncomputable def ct94 : Ct := { f := 94, ps := [.v false .ro ls9, .p false ls47], rs := [(false, ls4)], shared := false, pre := fun (x : S × Rsp) => pStorable_1 x.1 x.2, F := fun (x : S × Rsp) => mStorable_1 x.1 x.2 }
theorem law94 : ∀ x : S × Rsp, pStorable_1 x.1 x.2 → s_impl_Storable_1 x.1 x.2 (fun r => r = mStorable_1 x.1 x.2) := fun x h => impl_Storable_1_ok x.1 x.2 h
theorem all94 (w : World) (hJ : J w) : CtAt Tryd.prog ct94 w :=
  ct_by ok94 (cs94 w hJ) Tryd.func94 (by kernel_rfl) (H := (hint [])) law94 (by kernel_rfl)
noncomputable def E99 : Env := { tt, eqs := [], cts := [] }
theorem ok99 : EnvOk Tryd.prog E99 := ⟨ttOk, by kernel_rfl, rfl, mixOk⟩
theorem cs99 (w0 : World) (hJ : J w0) : EnvCts Tryd.prog E99 w0 := by
  intro c hc
  cases hc
noncomputable def ct99 : Ct := { f := 99, ps := [.v false .ro ls3], rs := [(false, ls4)], shared := false, pre := fun (x : Int) => pHeuristic x, F := fun (x : Int) => mHeuristic x }
theorem law99 : ∀ x : Int, pHeuristic x → s_impl_Heuristic x (fun r => r = mHeuristic x) := fun x _ => impl_Heuristic_ok x
theorem all99 (w : World) (hJ : J w) : CtAt Tryd.prog ct99 w :=
  ct_by ok99 (cs99 w hJ) Tryd.func99 (by kernel_rfl) (H := (hint [])) law99 (by kernel_rfl)
noncomputable def E46 : Env := { tt, eqs := [], cts := [ct95, ct74, ct94, ct70, ct97, ct96, ct98, ct99] }
theorem ok46 : EnvOk Tryd.prog E46 := ⟨ttOk, by kernel_rfl, rfl, mixOk⟩
theorem cs46 (w0 : World) (hJ : J w0) : EnvCts Tryd.prog E46 w0 := by
  intro c hc
  rcases List.mem_cons.1 hc with rfl | hc
  · exact fun w hb => all95 w (J_below hJ hb)
  rcases List.mem_cons.1 hc with rfl | hc
  · exact fun w hb => all74 w (J_below hJ hb)
  rcases List.mem_cons.1 hc with rfl | hc
  · exact fun w hb => all94 w (J_below hJ hb)
  rcases List.mem_cons.1 hc with rfl | hc
  · exact fun w hb => all70 w (J_below hJ hb)
  rcases List.mem_cons.1 hc with rfl | hc
  · exact fun w hb => all97 w (J_below hJ hb)
  rcases List.mem_cons.1 hc with rfl | hc
  · exact fun w hb => all96 w (J_below hJ hb)
  rcases List.mem_cons.1 hc with rfl | hc
  · exact fun w hb => all98 w (J_below hJ hb)
  rcases List.mem_cons.1 hc with rfl | hc
  · exact fun w hb => all99 w (J_below hJ hb)
  cases hc
noncomputable def ct46 : Ct := { f := 46, ps := [.v true .ro ls44, .v true .ro ls47], rs := [(false, ls4)], shared := false, pre := fun (x : Req × Rsp) => pStorable x.1 x.2, F := fun (x : Req × Rsp) => mStorable x.1 x.2 }
theorem law46 : ∀ x : Req × Rsp, pStorable x.1 x.2 → s_impl_Storable x.1 x.2 (fun r => r = mStorable x.1 x.2) := fun x h => impl_Storable_ok x.1 x.2 h
theorem all46 (w : World) (hJ : J w) : CtAt Tryd.prog ct46 w :=
  ct_by ok46 (cs46 w hJ) Tryd.func46 (by kernel_rfl) (H := (hint [])) law46 (by kernel_rfl)
noncomputable def E47 : Env := { tt, eqs := [], cts := [ct17, ct18] }
theorem ok47 : EnvOk Tryd.prog E47 := ⟨ttOk, by kernel_rfl, rfl, mixOk⟩
theorem cs47 (w0 : World) (hJ : J w0) : EnvCts Tryd.prog E47 w0 := by
  intro c hc
  rcases List.mem_cons.1 hc with rfl | hc
  · exact fun w hb => all17 w (J_below hJ hb)
  rcases List.mem_cons.1 hc with rfl | hc
  · exact fun w hb => all18 w (J_below hJ hb)
  cases hc
noncomputable def ct47 : Ct := { f := 47, ps := [.v true .ro ls77, .v false .ro [.int .i64]], rs := [(false, [.int .i64])], shared := false, pre := fun (q : Flt × Int) => pSz q.1 q.2, F := fun (q : Flt × Int) => szF q.1 q.2 }
def st47 : List (SzStep Flt) := [.str (fun x : Flt => x.1), .call (fun x : Flt => wd ((x.2.2.2.2.2.1, x.2.2.2.2.2.2.1, x.2.2.2.2.2.2.2.1, x.2.2.2.2.2.2.2.2.1) : Req)) (fun x : Flt => cz ((x.2.2.2.2.2.1, x.2.2.2.2.2.2.1, x.2.2.2.2.2.2.2.1, x.2.2.2.2.2.2.2.2.1) : Req)), .call (fun x : Flt => wd ((x.2.2.2.2.2.2.2.2.2.1, x.2.2.2.2.2.2.2.2.2.2.1, x.2.2.2.2.2.2.2.2.2.2.2.1) : Rsp)) (fun x : Flt => cz ((x.2.2.2.2.2.2.2.2.2.1, x.2.2.2.2.2.2.2.2.2.2.1, x.2.2.2.2.2.2.2.2.2.2.2.1) : Rsp))]
theorem c47 (x : Flt) : szSum x st47 = cz x := by
  simp only [szSum, st47, cz_pair, cz_int, cz_bool, cz_str]
  all_goals omega
theorem w47 (x : Flt) (h : wd x) : szFine x st47 := by
  first | simp only [wd_pair] at h | skip
  simp only [szFine, st47, wd_pair, wf_wd]
  simp only [h, and_self]
theorem law47 : ∀ q : Flt × Int, pSz q.1 q.2 → szSt q.1 st47 q.2 (fun r => r = szF q.1 q.2) := fun q hq => szSt_holds q.1 st47 q.2 _ (w47 q.1 hq.1) hq.2.1 hq.2.2 (c47 q.1)
theorem all47 (w : World) (hJ : J w) : CtAt Tryd.prog ct47 w :=
  ct_by ok47 (cs47 w hJ) Tryd.func47 (by kernel_rfl) (H := (hint [])) law47 (by kernel_rfl)
noncomputable def E49 : Env := { tt, eqs := [], cts := [ct21, ct22] }
theorem ok49 : EnvOk Tryd.prog E49 := ⟨ttOk, by kernel_rfl, rfl, mixOk⟩
theorem cs49 (w0 : World) (hJ : J w0) : EnvCts Tryd.prog E49 w0 := by
  intro c hc
  rcases List.mem_cons.1 hc with rfl | hc
  · exact fun w hb => all21 w (J_below hJ hb)
  rcases List.mem_cons.1 hc with rfl | hc
  · exact fun w hb => all22 w (J_below hJ hb)
  cases hc
noncomputable def ct49 : Ct := { f := 49, ps := [.v true .ro ls77], rs := [(true, ls81)], shared := false, pre := fun (x : Flt) => pTo x, F := fun (x : Flt) => toF x }
theorem law49 : ∀ q : Flt, pTo q → conj [pTo ((q.2.2.2.2.2.1, q.2.2.2.2.2.2.1, q.2.2.2.2.2.2.2.1, q.2.2.2.2.2.2.2.2.1) : Req), pTo ((q.2.2.2.2.2.2.2.2.2.1, q.2.2.2.2.2.2.2.2.2.2.1, q.2.2.2.2.2.2.2.2.2.2.2.1) : Rsp)] (q = toF q) := fun q hq => ⟨(czm4 (czt (czt (czt (czt (czt hq)))))), (czm3 (czt (czt (czt (czt (czt (czt (czt (czt (czt hq)))))))))), rfl⟩
theorem all49 (w : World) (hJ : J w) : CtAt Tryd.prog ct49 w :=
  ct_by ok49 (cs49 w hJ) Tryd.func49 (by kernel_rfl) (H := (hint [])) law49 (by kernel_rfl)
noncomputable def E100 : Env := { tt, eqs := [], cts := [ct67, ct73] }
theorem ok100 : EnvOk Tryd.prog E100 := ⟨ttOk, by kernel_rfl, rfl, mixOk⟩
theorem cs100 (w0 : World) (hJ : J w0) : EnvCts Tryd.prog E100 w0 := by
  intro c hc
  rcases List.mem_cons.1 hc with rfl | hc
  · exact fun w hb => all67 w (J_below hJ hb)
  rcases List.mem_cons.1 hc with rfl | hc
  · exact fun w hb => all73 w (J_below hJ hb)
  cases hc
noncomputable def ct100 : Ct := { f := 100, ps := [.v true .ro ls44], rs := [(false, ls4)], shared := false, pre := fun (x : Req) => pItsOwn x, F := fun (x : Req) => mItsOwn x }
theorem law100 : ∀ x : Req, pItsOwn x → s_spec_l16Own x (fun r => r = mItsOwn x) := fun x h => spec_l16Own_ok x h
theorem all100 (w : World) (hJ : J w) : CtAt Tryd.prog ct100 w :=
  ct_by ok100 (cs100 w hJ) Tryd.func100 (by kernel_rfl) (H := (hint [])) law100 (by kernel_rfl)
noncomputable def E48 : Env := { tt, eqs := [], cts := [ct28, ct20, ct100] }
theorem ok48 : EnvOk Tryd.prog E48 := ⟨ttOk, by kernel_rfl, rfl, mixOk⟩
theorem cs48 (w0 : World) (hJ : J w0) : EnvCts Tryd.prog E48 w0 := by
  intro c hc
  rcases List.mem_cons.1 hc with rfl | hc
  · exact fun w hb => all28 w (J_below hJ hb)
  rcases List.mem_cons.1 hc with rfl | hc
  · exact fun w hb => all20 w (J_below hJ hb)
  rcases List.mem_cons.1 hc with rfl | hc
  · exact fun w hb => all100 w (J_below hJ hb)
  cases hc
noncomputable def ct48 : Ct := { f := 48, ps := [.v true .ro ls44, .v true .ro ls81, .v false .ro ls3], rs := [(false, ls4)], shared := false, pre := fun (x : Req × Flt × Int) => pMayShare x.1 x.2.1 x.2.2, F := fun (x : Req × Flt × Int) => mMayShare x.1 x.2.1 x.2.2 }
theorem law48 : ∀ x : Req × Flt × Int, pMayShare x.1 x.2.1 x.2.2 → s_spec_MayShare x.1 x.2.1 x.2.2 (fun r => r = mMayShare x.1 x.2.1 x.2.2) := fun x h => spec_MayShare_ok x.1 x.2.1 x.2.2 h
theorem all48 (w : World) (hJ : J w) : CtAt Tryd.prog ct48 w :=
  ct_by ok48 (cs48 w hJ) Tryd.func48 (by kernel_rfl) (H := (hint [])) law48 (by kernel_rfl)
noncomputable def E101 : Env := { tt, eqs := [], cts := [ct98, ct74] }
theorem ok101 : EnvOk Tryd.prog E101 := ⟨ttOk, by kernel_rfl, rfl, mixOk⟩
theorem cs101 (w0 : World) (hJ : J w0) : EnvCts Tryd.prog E101 w0 := by
  intro c hc
  rcases List.mem_cons.1 hc with rfl | hc
  · exact fun w hb => all98 w (J_below hJ hb)
  rcases List.mem_cons.1 hc with rfl | hc
  · exact fun w hb => all74 w (J_below hJ hb)
  cases hc
noncomputable def ct101 : Ct := { f := 101, ps := [.v true .ro ls44], rs := [(false, ls4)], shared := false, pre := fun (x : Req) => pItsOwn x, F := fun (x : Req) => mItsOwn x }
theorem law101 : ∀ x : Req, pItsOwn x → s_impl_itsOwn x (fun r => r = mItsOwn x) := fun x h => impl_itsOwn_ok x h
theorem all101 (w : World) (hJ : J w) : CtAt Tryd.prog ct101 w :=
  ct_by ok101 (cs101 w hJ) Tryd.func101 (by kernel_rfl) (H := (hint [])) law101 (by kernel_rfl)
noncomputable def E50 : Env := { tt, eqs := [], cts := [ct29, ct24, ct101] }
theorem ok50 : EnvOk Tryd.prog E50 := ⟨ttOk, by kernel_rfl, rfl, mixOk⟩
theorem cs50 (w0 : World) (hJ : J w0) : EnvCts Tryd.prog E50 w0 := by
  intro c hc
  rcases List.mem_cons.1 hc with rfl | hc
  · exact fun w hb => all29 w (J_below hJ hb)
  rcases List.mem_cons.1 hc with rfl | hc
  · exact fun w hb => all24 w (J_below hJ hb)
  rcases List.mem_cons.1 hc with rfl | hc
  · exact fun w hb => all101 w (J_below hJ hb)
  cases hc
noncomputable def ct50 : Ct := { f := 50, ps := [.v true .ro ls44, .v true .ro ls81, .v false .ro ls3], rs := [(false, ls4)], shared := false, pre := fun (x : Req × Flt × Int) => pMayShare x.1 x.2.1 x.2.2, F := fun (x : Req × Flt × Int) => mMayShare x.1 x.2.1 x.2.2 }
theorem law50 : ∀ x : Req × Flt × Int, pMayShare x.1 x.2.1 x.2.2 → s_impl_MayShare x.1 x.2.1 x.2.2 (fun r => r = mMayShare x.1 x.2.1 x.2.2) := fun x h => impl_MayShare_ok x.1 x.2.1 x.2.2 h
theorem all50 (w : World) (hJ : J w) : CtAt Tryd.prog ct50 w :=
  ct_by ok50 (cs50 w hJ) Tryd.func50 (by kernel_rfl) (H := (hint [])) law50 (by kernel_rfl)
noncomputable def E51 : Env := { tt, eqs := [], cts := [ct25, ct26] }
theorem ok51 : EnvOk Tryd.prog E51 := ⟨ttOk, by kernel_rfl, rfl, mixOk⟩
theorem cs51 (w0 : World) (hJ : J w0) : EnvCts Tryd.prog E51 w0 := by
  intro c hc
  rcases List.mem_cons.1 hc with rfl | hc
  · exact fun w hb => all25 w (J_below hJ hb)
  rcases List.mem_cons.1 hc with rfl | hc
  · exact fun w hb => all26 w (J_below hJ hb)
  cases hc
noncomputable def ct51 : Ct := { f := 51, ps := [.v true .ro ls81, .v true .ro ls81], rs := [(false, [.bool])], shared := false, pre := fun (q : Flt × Flt) => pEq q.1 q.2, F := fun (q : Flt × Flt) => eqF q.1 q.2 }
def st51 : List (EqStep Flt) := [.ne (fun (x y : Flt) => x.1 ≠ y.1), .ne (fun (x y : Flt) => x.2.1 ≠ y.2.1), .ne (fun (x y : Flt) => x.2.2.1 ≠ y.2.2.1), .ne (fun (x y : Flt) => x.2.2.2.1 ≠ y.2.2.2.1), .ne (fun (x y : Flt) => x.2.2.2.2.1 ≠ y.2.2.2.2.1), .call (fun (x _ : Flt) => wd ((x.2.2.2.2.2.1, x.2.2.2.2.2.2.1, x.2.2.2.2.2.2.2.1, x.2.2.2.2.2.2.2.2.1) : Req)) (fun (x y : Flt) => eqF ((x.2.2.2.2.2.1, x.2.2.2.2.2.2.1, x.2.2.2.2.2.2.2.1, x.2.2.2.2.2.2.2.2.1) : Req) (y.2.2.2.2.2.1, y.2.2.2.2.2.2.1, y.2.2.2.2.2.2.2.1, y.2.2.2.2.2.2.2.2.1)), .call (fun (x _ : Flt) => wd ((x.2.2.2.2.2.2.2.2.2.1, x.2.2.2.2.2.2.2.2.2.2.1, x.2.2.2.2.2.2.2.2.2.2.2.1) : Rsp)) (fun (x y : Flt) => eqF ((x.2.2.2.2.2.2.2.2.2.1, x.2.2.2.2.2.2.2.2.2.2.1, x.2.2.2.2.2.2.2.2.2.2.2.1) : Rsp) (y.2.2.2.2.2.2.2.2.2.1, y.2.2.2.2.2.2.2.2.2.2.1, y.2.2.2.2.2.2.2.2.2.2.2.1)), .ne (fun (x y : Flt) => x.2.2.2.2.2.2.2.2.2.2.2.2.1 ≠ y.2.2.2.2.2.2.2.2.2.2.2.2.1), .ne (fun (x y : Flt) => x.2.2.2.2.2.2.2.2.2.2.2.2.2 ≠ y.2.2.2.2.2.2.2.2.2.2.2.2.2)]
def mk51 (a0 : S) (a1 : Bool) (a2 : Int) (a3 : Bool) (a4 : Bool) (a5 : Req) (a6 : Rsp) (a7 : Int) (a8 : Int) : Flt := (a0, a1, a2, a3, a4, a5.1, a5.2.1, a5.2.2.1, a5.2.2.2, a6.1, a6.2.1, a6.2.2, a7, a8)
theorem a51 (x y : Flt) : eqAll x y st51 ↔ x = y := by
  constructor
  · rintro ⟨h0, h1, h2, h3, h4, h5, h6, h7, h8, -⟩
    have h0 : x.1 = y.1 := Classical.byContradiction h0
    have h1 : x.2.1 = y.2.1 := Classical.byContradiction h1
    have h2 : x.2.2.1 = y.2.2.1 := Classical.byContradiction h2
    have h3 : x.2.2.2.1 = y.2.2.2.1 := Classical.byContradiction h3
    have h4 : x.2.2.2.2.1 = y.2.2.2.2.1 := Classical.byContradiction h4
    have h5 : ((x.2.2.2.2.2.1, x.2.2.2.2.2.2.1, x.2.2.2.2.2.2.2.1, x.2.2.2.2.2.2.2.2.1) : Req) = (y.2.2.2.2.2.1, y.2.2.2.2.2.2.1, y.2.2.2.2.2.2.2.1, y.2.2.2.2.2.2.2.2.1) := eqF_iff.1 h5
    have h6 : ((x.2.2.2.2.2.2.2.2.2.1, x.2.2.2.2.2.2.2.2.2.2.1, x.2.2.2.2.2.2.2.2.2.2.2.1) : Rsp) = (y.2.2.2.2.2.2.2.2.2.1, y.2.2.2.2.2.2.2.2.2.2.1, y.2.2.2.2.2.2.2.2.2.2.2.1) := eqF_iff.1 h6
    have h7 : x.2.2.2.2.2.2.2.2.2.2.2.2.1 = y.2.2.2.2.2.2.2.2.2.2.2.2.1 := Classical.byContradiction h7
    have h8 : x.2.2.2.2.2.2.2.2.2.2.2.2.2 = y.2.2.2.2.2.2.2.2.2.2.2.2.2 := Classical.byContradiction h8
    show mk51 (x.1) (x.2.1) (x.2.2.1) (x.2.2.2.1) (x.2.2.2.2.1) ((x.2.2.2.2.2.1, x.2.2.2.2.2.2.1, x.2.2.2.2.2.2.2.1, x.2.2.2.2.2.2.2.2.1)) ((x.2.2.2.2.2.2.2.2.2.1, x.2.2.2.2.2.2.2.2.2.2.1, x.2.2.2.2.2.2.2.2.2.2.2.1)) (x.2.2.2.2.2.2.2.2.2.2.2.2.1) (x.2.2.2.2.2.2.2.2.2.2.2.2.2) = mk51 (y.1) (y.2.1) (y.2.2.1) (y.2.2.2.1) (y.2.2.2.2.1) ((y.2.2.2.2.2.1, y.2.2.2.2.2.2.1, y.2.2.2.2.2.2.2.1, y.2.2.2.2.2.2.2.2.1)) ((y.2.2.2.2.2.2.2.2.2.1, y.2.2.2.2.2.2.2.2.2.2.1, y.2.2.2.2.2.2.2.2.2.2.2.1)) (y.2.2.2.2.2.2.2.2.2.2.2.2.1) (y.2.2.2.2.2.2.2.2.2.2.2.2.2)
    rw [h0, h1, h2, h3, h4, h5, h6, h7, h8]
    all_goals rfl
  · rintro rfl
    exact ⟨fun h => h rfl, fun h => h rfl, fun h => h rfl, fun h => h rfl, fun h => h rfl, eqF_iff.2 rfl, eqF_iff.2 rfl, fun h => h rfl, fun h => h rfl, trivial⟩
theorem w51 (x y : Flt) (h : wd x) : eqFine x y st51 := by
  first | simp only [wd_pair] at h | skip
  simp only [eqFine, st51, wd_pair]
  all_goals simp only [h, and_self]
theorem law51 : ∀ q : Flt × Flt, pEq q.1 q.2 → eqSt q.1 q.2 st51 (fun r => r = eqF q.1 q.2) := fun q hq => eqSt_holds q.1 q.2 st51 (w51 q.1 q.2 hq) (eqF_iff.trans (a51 q.1 q.2).symm)
theorem all51 (w : World) (hJ : J w) : CtAt Tryd.prog ct51 w :=
  ct_by ok51 (cs51 w hJ) Tryd.func51 (by kernel_rfl) (H := (hint [])) law51 (by kernel_rfl)
noncomputable def E3 : Env := { tt, eqs := [], cts := [ct12, ct14, ct13, ct15, ct16] }
theorem ok3 : EnvOk Tryd.prog E3 := ⟨ttOk, by kernel_rfl, rfl, mixOk⟩
theorem cs3 (w0 : World) (hJ : J w0) : EnvCts Tryd.prog E3 w0 := by
  intro c hc
  rcases List.mem_cons.1 hc with rfl | hc
  · exact fun w hb => all12 w (J_below hJ hb)
  rcases List.mem_cons.1 hc with rfl | hc
  · exact fun w hb => all14 w (J_below hJ hb)
  rcases List.mem_cons.1 hc with rfl | hc
  · exact fun w hb => all13 w (J_below hJ hb)
  rcases List.mem_cons.1 hc with rfl | hc
  · exact fun w hb => all15 w (J_below hJ hb)
  rcases List.mem_cons.1 hc with rfl | hc
  · exact fun w hb => all16 w (J_below hJ hb)
  cases hc
noncomputable def ct3 : Ct := boolCt 3 [.v true .ro ls24] (fun (x : (List Rsc)) => p_FnExactOriginOk x)
theorem law3 : ∀ x : (List Rsc), p_FnExactOriginOk x → s_laws_FnExactOriginOk x (fun r => r = true) := fun x h => laws_FnExactOriginOk_ok x h
theorem all3 (w : World) (hJ : J w) : CtAt Tryd.prog ct3 w :=
  ct_by ok3 (cs3 w hJ) Tryd.func3 (by kernel_rfl) (H := (hint [])) law3 (by kernel_rfl)
noncomputable def E8 : Env := { tt, eqs := [], cts := [ct38, ct40, ct39, ct41, ct42] }
theorem ok8 : EnvOk Tryd.prog E8 := ⟨ttOk, by kernel_rfl, rfl, mixOk⟩
theorem cs8 (w0 : World) (hJ : J w0) : EnvCts Tryd.prog E8 w0 := by
  intro c hc
  rcases List.mem_cons.1 hc with rfl | hc
  · exact fun w hb => all38 w (J_below hJ hb)
  rcases List.mem_cons.1 hc with rfl | hc
  · exact fun w hb => all40 w (J_below hJ hb)
  rcases List.mem_cons.1 hc with rfl | hc
  · exact fun w hb => all39 w (J_below hJ hb)
  rcases List.mem_cons.1 hc with rfl | hc
  · exact fun w hb => all41 w (J_below hJ hb)
  rcases List.mem_cons.1 hc with rfl | hc
  · exact fun w hb => all42 w (J_below hJ hb)
  cases hc
noncomputable def ct8 : Ct := boolCt 8 [.v true .ro ls65] (fun (x : Shd) => p_FnExactShardOk x)
theorem law8 : ∀ x : Shd, p_FnExactShardOk x → s_laws_FnExactShardOk x (fun r => r = true) := fun x h => laws_FnExactShardOk_ok x h
theorem all8 (w : World) (hJ : J w) : CtAt Tryd.prog ct8 w :=
  ct_by ok8 (cs8 w hJ) Tryd.func8 (by kernel_rfl) (H := (hint [])) law8 (by kernel_rfl)
noncomputable def E9 : Env := { tt, eqs := [], cts := [ct38, ct40, ct43, ct44, ct42] }
theorem ok9 : EnvOk Tryd.prog E9 := ⟨ttOk, by kernel_rfl, rfl, mixOk⟩
theorem cs9 (w0 : World) (hJ : J w0) : EnvCts Tryd.prog E9 w0 := by
  intro c hc
  rcases List.mem_cons.1 hc with rfl | hc
  · exact fun w hb => all38 w (J_below hJ hb)
  rcases List.mem_cons.1 hc with rfl | hc
  · exact fun w hb => all40 w (J_below hJ hb)
  rcases List.mem_cons.1 hc with rfl | hc
  · exact fun w hb => all43 w (J_below hJ hb)
  rcases List.mem_cons.1 hc with rfl | hc
  · exact fun w hb => all44 w (J_below hJ hb)
  rcases List.mem_cons.1 hc with rfl | hc
  · exact fun w hb => all42 w (J_below hJ hb)
  cases hc
noncomputable def ct9 : Ct := boolCt 9 [.v true .ro ls65] (fun (x : Shd) => p_FnExactFilled x)
theorem law9 : ∀ x : Shd, p_FnExactFilled x → s_laws_FnExactFilled x (fun r => r = true) := fun x h => laws_FnExactFilled_ok x h
theorem all9 (w : World) (hJ : J w) : CtAt Tryd.prog ct9 w :=
  ct_by ok9 (cs9 w hJ) Tryd.func9 (by kernel_rfl) (H := (hint [])) law9 (by kernel_rfl)
noncomputable def E4 : Env := { tt, eqs := [], cts := [ct17, ct18, ct19, ct21, ct22, ct23, ct20, ct24, ct25, ct26, ct27] }
theorem ok4 : EnvOk Tryd.prog E4 := ⟨ttOk, by kernel_rfl, rfl, mixOk⟩
theorem cs4 (w0 : World) (hJ : J w0) : EnvCts Tryd.prog E4 w0 := by
  intro c hc
  rcases List.mem_cons.1 hc with rfl | hc
  · exact fun w hb => all17 w (J_below hJ hb)
  rcases List.mem_cons.1 hc with rfl | hc
  · exact fun w hb => all18 w (J_below hJ hb)
  rcases List.mem_cons.1 hc with rfl | hc
  · exact fun w hb => all19 w (J_below hJ hb)
  rcases List.mem_cons.1 hc with rfl | hc
  · exact fun w hb => all21 w (J_below hJ hb)
  rcases List.mem_cons.1 hc with rfl | hc
  · exact fun w hb => all22 w (J_below hJ hb)
  rcases List.mem_cons.1 hc with rfl | hc
  · exact fun w hb => all23 w (J_below hJ hb)
  rcases List.mem_cons.1 hc with rfl | hc
  · exact fun w hb => all20 w (J_below hJ hb)
  rcases List.mem_cons.1 hc with rfl | hc
  · exact fun w hb => all24 w (J_below hJ hb)
  rcases List.mem_cons.1 hc with rfl | hc
  · exact fun w hb => all25 w (J_below hJ hb)
  rcases List.mem_cons.1 hc with rfl | hc
  · exact fun w hb => all26 w (J_below hJ hb)
  rcases List.mem_cons.1 hc with rfl | hc
  · exact fun w hb => all27 w (J_below hJ hb)
  cases hc
noncomputable def ct4 : Ct := boolCt 4 [.v true .ro ls35, .v true .ro ls37, .v false .ro ls33] (fun (x : Req × Rsp × (List Fld)) => p_FnExactVaryFits x.1 x.2.1 x.2.2)
theorem law4 : ∀ x : Req × Rsp × (List Fld), p_FnExactVaryFits x.1 x.2.1 x.2.2 → s_laws_FnExactVaryFits x.1 x.2.1 x.2.2 (fun r => r = true) := fun x h => laws_FnExactVaryFits_ok x.1 x.2.1 x.2.2 h
theorem all4 (w : World) (hJ : J w) : CtAt Tryd.prog ct4 w :=
  ct_by ok4 (cs4 w hJ) Tryd.func4 (by kernel_rfl) (H := (hint [])) law4 (by kernel_rfl)
noncomputable def E6 : Env := { tt, eqs := [], cts := [ct17, ct21, ct34, ct35, ct25] }
theorem ok6 : EnvOk Tryd.prog E6 := ⟨ttOk, by kernel_rfl, rfl, mixOk⟩
theorem cs6 (w0 : World) (hJ : J w0) : EnvCts Tryd.prog E6 w0 := by
  intro c hc
  rcases List.mem_cons.1 hc with rfl | hc
  · exact fun w hb => all17 w (J_below hJ hb)
  rcases List.mem_cons.1 hc with rfl | hc
  · exact fun w hb => all21 w (J_below hJ hb)
  rcases List.mem_cons.1 hc with rfl | hc
  · exact fun w hb => all34 w (J_below hJ hb)
  rcases List.mem_cons.1 hc with rfl | hc
  · exact fun w hb => all35 w (J_below hJ hb)
  rcases List.mem_cons.1 hc with rfl | hc
  · exact fun w hb => all25 w (J_below hJ hb)
  cases hc
noncomputable def ct6 : Ct := boolCt 6 [.v true .ro ls35] (fun (x : Req) => p_FnExactOnlyStored x)
theorem law6 : ∀ x : Req, p_FnExactOnlyStored x → s_laws_FnExactOnlyStored x (fun r => r = true) := fun x h => laws_FnExactOnlyStored_ok x h
theorem all6 (w : World) (hJ : J w) : CtAt Tryd.prog ct6 w :=
  ct_by ok6 (cs6 w hJ) Tryd.func6 (by kernel_rfl) (H := (hint [])) law6 (by kernel_rfl)
noncomputable def E10 : Env := { tt, eqs := [], cts := [ct17, ct18, ct21, ct22, ct45, ct46, ct25, ct26] }
theorem ok10 : EnvOk Tryd.prog E10 := ⟨ttOk, by kernel_rfl, rfl, mixOk⟩
theorem cs10 (w0 : World) (hJ : J w0) : EnvCts Tryd.prog E10 w0 := by
  intro c hc
  rcases List.mem_cons.1 hc with rfl | hc
  · exact fun w hb => all17 w (J_below hJ hb)
  rcases List.mem_cons.1 hc with rfl | hc
  · exact fun w hb => all18 w (J_below hJ hb)
  rcases List.mem_cons.1 hc with rfl | hc
  · exact fun w hb => all21 w (J_below hJ hb)
  rcases List.mem_cons.1 hc with rfl | hc
  · exact fun w hb => all22 w (J_below hJ hb)
  rcases List.mem_cons.1 hc with rfl | hc
  · exact fun w hb => all45 w (J_below hJ hb)
  rcases List.mem_cons.1 hc with rfl | hc
  · exact fun w hb => all46 w (J_below hJ hb)
  rcases List.mem_cons.1 hc with rfl | hc
  · exact fun w hb => all25 w (J_below hJ hb)
  rcases List.mem_cons.1 hc with rfl | hc
  · exact fun w hb => all26 w (J_below hJ hb)
  cases hc
noncomputable def ct10 : Ct := boolCt 10 [.v true .ro ls35, .v true .ro ls37] (fun (x : Req × Rsp) => p_FnExactStorable x.1 x.2)
theorem law10 : ∀ x : Req × Rsp, p_FnExactStorable x.1 x.2 → s_laws_FnExactStorable x.1 x.2 (fun r => r = true) := fun x h => laws_FnExactStorable_ok x.1 x.2 h
theorem all10 (w : World) (hJ : J w) : CtAt Tryd.prog ct10 w :=
  ct_by ok10 (cs10 w hJ) Tryd.func10 (by kernel_rfl) (H := (hint [])) law10 (by kernel_rfl)
noncomputable def E11 : Env := { tt, eqs := [], cts := [ct17, ct47, ct21, ct49, ct48, ct50, ct25, ct51] }
theorem ok11 : EnvOk Tryd.prog E11 := ⟨ttOk, by kernel_rfl, rfl, mixOk⟩
theorem cs11 (w0 : World) (hJ : J w0) : EnvCts Tryd.prog E11 w0 := by
  intro c hc
  rcases List.mem_cons.1 hc with rfl | hc
  · exact fun w hb => all17 w (J_below hJ hb)
  rcases List.mem_cons.1 hc with rfl | hc
  · exact fun w hb => all47 w (J_below hJ hb)
  rcases List.mem_cons.1 hc with rfl | hc
  · exact fun w hb => all21 w (J_below hJ hb)
  rcases List.mem_cons.1 hc with rfl | hc
  · exact fun w hb => all49 w (J_below hJ hb)
  rcases List.mem_cons.1 hc with rfl | hc
  · exact fun w hb => all48 w (J_below hJ hb)
  rcases List.mem_cons.1 hc with rfl | hc
  · exact fun w hb => all50 w (J_below hJ hb)
  rcases List.mem_cons.1 hc with rfl | hc
  · exact fun w hb => all25 w (J_below hJ hb)
  rcases List.mem_cons.1 hc with rfl | hc
  · exact fun w hb => all51 w (J_below hJ hb)
  cases hc
noncomputable def ct11 : Ct := boolCt 11 [.v true .ro ls35, .v true .ro ls77, .v false .ro ls3] (fun (x : Req × Flt × Int) => p_FnExactMayShare x.1 x.2.1 x.2.2)
theorem law11 : ∀ x : Req × Flt × Int, p_FnExactMayShare x.1 x.2.1 x.2.2 → s_laws_FnExactMayShare x.1 x.2.1 x.2.2 (fun r => r = true) := fun x h => laws_FnExactMayShare_ok x.1 x.2.1 x.2.2 h
theorem all11 (w : World) (hJ : J w) : CtAt Tryd.prog ct11 w :=
  ct_by ok11 (cs11 w hJ) Tryd.func11 (by kernel_rfl) (H := (hint [])) law11 (by kernel_rfl)
end Go.Proofs.YtinphipdffikhaaDoor.Ap
end
