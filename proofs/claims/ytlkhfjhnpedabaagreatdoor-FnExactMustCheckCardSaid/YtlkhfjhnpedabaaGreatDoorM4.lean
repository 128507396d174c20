/- A small verified machine for the operations of the given program, and plain laws of what its functions compute; without conditions of its own. Part 5. -/
import Derived.Test.YtlkhfjhnpedabaaGreatDoorM3
import Derived.Test.YtlkhfjhnpedabaaGreatDoorM2
import Derived.Test.YtlkhfjhnpedabaaGreatDoorShelfb
import Derived.Shelf.Strings.SlTrimAscii
set_option linter.unusedVariables false
set_option linter.unusedSimpArgs false
section
set_option linter.unusedVariables false
namespace Go.Proofs.YtlkhfjhnpedabaaGreatDoor.ApM
open Go Go.Ev Go.Proofs Go.RowKit
abbrev ls3 : List L := [.int .i64]
abbrev ls4 : List L := [.bool]
abbrev ls5 : List L := [.int .u8]
abbrev ls9 : List L := [.str]
abbrev ls38 : List L := [.list 123 [.str, .str]]
abbrev ls40 : List L := [.str, .str, .list 123 [.str, .str], .str]
abbrev ls48 : List L := [.list 126 [.str, .str]]
abbrev ls50 : List L := [.str, .str, .list 126 [.str, .str], .str]
abbrev ls58 : List L := [.int .i64, .list 123 [.str, .str], .str]
abbrev ls62 : List L := [.int .i64, .list 126 [.str, .str], .str]
abbrev ls95 : List L := [.list 9 [.str]]
abbrev ls123 : List L := [.str, .str]
abbrev ls126 : List L := [.str, .str]
abbrev ls133 : List L := [.list 3 [.int .i64]]
abbrev ls137 : List L := [.list 139 [.str, .str]]
abbrev ls139 : List L := [.str, .str]
def tt : List (Nat × TI) := [
  (2, ⟨.sc, [.int .i64]⟩),
  (3, ⟨.sc, [.int .i64]⟩),
  (4, ⟨.sc, [.bool]⟩),
  (5, ⟨.sc, [.int .u8]⟩),
  (6, ⟨.sc, [.int .u8]⟩),
  (7, ⟨.st [(0, [.int .i64]), (1, [.int .i64]), (2, [.bool]), (3, [.int .u8])], [.int .i64, .int .i64, .bool, .int .u8]⟩),
  (8, ⟨.st [(0, [.int .i64]), (1, [.int .i64]), (2, [.bool]), (3, [.int .u8])], [.int .i64, .int .i64, .bool, .int .u8]⟩),
  (9, ⟨.sc, [.str]⟩),
  (10, ⟨.sc, [.str]⟩),
  (11, ⟨.sc, [.str]⟩),
  (12, ⟨.sc, [.int .u64]⟩),
  (13, ⟨.st [(0, [.str]), (1, [.int .u64])], [.str, .int .u64]⟩),
  (14, ⟨.st [(0, [.str]), (1, [.int .u64])], [.str, .int .u64]⟩),
  (21, ⟨.sc, [.int .i32]⟩),
  (22, ⟨.sl 37 [.int .i64, .int .i64, .list 120 [.str, .list 123 [.str, .str], .int .i64, .list 123 [.str, .str], .str, .int .i64, .int .i64, .bool], .int .i64] 48, [.list 37 [.int .i64, .int .i64, .list 120 [.str, .list 123 [.str, .str], .int .i64, .list 123 [.str, .str], .str, .int .i64, .int .i64, .bool], .int .i64]]⟩),
  (23, ⟨.sl 106 [.str, .int .i64] 24, [.list 106 [.str, .int .i64]]⟩),
  (24, ⟨.st [(0, [.list 37 [.int .i64, .int .i64, .list 120 [.str, .list 123 [.str, .str], .int .i64, .list 123 [.str, .str], .str, .int .i64, .int .i64, .bool], .int .i64]]), (1, [.list 106 [.str, .int .i64]])], [.list 37 [.int .i64, .int .i64, .list 120 [.str, .list 123 [.str, .str], .int .i64, .list 123 [.str, .str], .str, .int .i64, .int .i64, .bool], .int .i64], .list 106 [.str, .int .i64]]⟩),
  (25, ⟨.st [(0, [.list 37 [.int .i64, .int .i64, .list 120 [.str, .list 123 [.str, .str], .int .i64, .list 123 [.str, .str], .str, .int .i64, .int .i64, .bool], .int .i64]]), (1, [.list 106 [.str, .int .i64]])], [.list 37 [.int .i64, .int .i64, .list 120 [.str, .list 123 [.str, .str], .int .i64, .list 123 [.str, .str], .str, .int .i64, .int .i64, .bool], .int .i64], .list 106 [.str, .int .i64]]⟩),
  (28, ⟨.sl 46 [.int .i64, .int .i64, .list 76 [.str, .list 126 [.str, .str], .int .i64, .list 126 [.str, .str], .str, .int .i64, .int .i64, .bool], .int .i64] 48, [.list 46 [.int .i64, .int .i64, .list 76 [.str, .list 126 [.str, .str], .int .i64, .list 126 [.str, .str], .str, .int .i64, .int .i64, .bool], .int .i64]]⟩),
  (29, ⟨.sl 79 [.str, .int .i64] 24, [.list 79 [.str, .int .i64]]⟩),
  (30, ⟨.st [(0, [.list 46 [.int .i64, .int .i64, .list 76 [.str, .list 126 [.str, .str], .int .i64, .list 126 [.str, .str], .str, .int .i64, .int .i64, .bool], .int .i64]]), (1, [.list 79 [.str, .int .i64]])], [.list 46 [.int .i64, .int .i64, .list 76 [.str, .list 126 [.str, .str], .int .i64, .list 126 [.str, .str], .str, .int .i64, .int .i64, .bool], .int .i64], .list 79 [.str, .int .i64]]⟩),
  (31, ⟨.st [(0, [.list 46 [.int .i64, .int .i64, .list 76 [.str, .list 126 [.str, .str], .int .i64, .list 126 [.str, .str], .str, .int .i64, .int .i64, .bool], .int .i64]]), (1, [.list 79 [.str, .int .i64]])], [.list 46 [.int .i64, .int .i64, .list 76 [.str, .list 126 [.str, .str], .int .i64, .list 126 [.str, .str], .str, .int .i64, .int .i64, .bool], .int .i64], .list 79 [.str, .int .i64]]⟩),
  (35, ⟨.sl 120 [.str, .list 123 [.str, .str], .int .i64, .list 123 [.str, .str], .str, .int .i64, .int .i64, .bool] 112, [.list 120 [.str, .list 123 [.str, .str], .int .i64, .list 123 [.str, .str], .str, .int .i64, .int .i64, .bool]]⟩),
  (36, ⟨.st [(0, [.int .i64]), (1, [.int .i64]), (2, [.list 120 [.str, .list 123 [.str, .str], .int .i64, .list 123 [.str, .str], .str, .int .i64, .int .i64, .bool]]), (3, [.int .i64])], [.int .i64, .int .i64, .list 120 [.str, .list 123 [.str, .str], .int .i64, .list 123 [.str, .str], .str, .int .i64, .int .i64, .bool], .int .i64]⟩),
  (37, ⟨.st [(0, [.int .i64]), (1, [.int .i64]), (2, [.list 120 [.str, .list 123 [.str, .str], .int .i64, .list 123 [.str, .str], .str, .int .i64, .int .i64, .bool]]), (3, [.int .i64])], [.int .i64, .int .i64, .list 120 [.str, .list 123 [.str, .str], .int .i64, .list 123 [.str, .str], .str, .int .i64, .int .i64, .bool], .int .i64]⟩),
  (38, ⟨.sl 123 [.str, .str] 32, [.list 123 [.str, .str]]⟩),
  (39, ⟨.st [(0, [.str]), (1, [.str]), (2, [.list 123 [.str, .str]]), (3, [.str])], [.str, .str, .list 123 [.str, .str], .str]⟩),
  (40, ⟨.st [(0, [.str]), (1, [.str]), (2, [.list 123 [.str, .str]]), (3, [.str])], [.str, .str, .list 123 [.str, .str], .str]⟩),
  (44, ⟨.sl 76 [.str, .list 126 [.str, .str], .int .i64, .list 126 [.str, .str], .str, .int .i64, .int .i64, .bool] 112, [.list 76 [.str, .list 126 [.str, .str], .int .i64, .list 126 [.str, .str], .str, .int .i64, .int .i64, .bool]]⟩),
  (45, ⟨.st [(0, [.int .i64]), (1, [.int .i64]), (2, [.list 76 [.str, .list 126 [.str, .str], .int .i64, .list 126 [.str, .str], .str, .int .i64, .int .i64, .bool]]), (3, [.int .i64])], [.int .i64, .int .i64, .list 76 [.str, .list 126 [.str, .str], .int .i64, .list 126 [.str, .str], .str, .int .i64, .int .i64, .bool], .int .i64]⟩),
  (46, ⟨.st [(0, [.int .i64]), (1, [.int .i64]), (2, [.list 76 [.str, .list 126 [.str, .str], .int .i64, .list 126 [.str, .str], .str, .int .i64, .int .i64, .bool]]), (3, [.int .i64])], [.int .i64, .int .i64, .list 76 [.str, .list 126 [.str, .str], .int .i64, .list 126 [.str, .str], .str, .int .i64, .int .i64, .bool], .int .i64]⟩),
  (48, ⟨.sl 126 [.str, .str] 32, [.list 126 [.str, .str]]⟩),
  (49, ⟨.st [(0, [.str]), (1, [.str]), (2, [.list 126 [.str, .str]]), (3, [.str])], [.str, .str, .list 126 [.str, .str], .str]⟩),
  (50, ⟨.st [(0, [.str]), (1, [.str]), (2, [.list 126 [.str, .str]]), (3, [.str])], [.str, .str, .list 126 [.str, .str], .str]⟩),
  (57, ⟨.st [(0, [.int .i64]), (1, [.list 123 [.str, .str]]), (2, [.str])], [.int .i64, .list 123 [.str, .str], .str]⟩),
  (58, ⟨.st [(0, [.int .i64]), (1, [.list 123 [.str, .str]]), (2, [.str])], [.int .i64, .list 123 [.str, .str], .str]⟩),
  (61, ⟨.st [(0, [.int .i64]), (1, [.list 126 [.str, .str]]), (2, [.str])], [.int .i64, .list 126 [.str, .str], .str]⟩),
  (62, ⟨.st [(0, [.int .i64]), (1, [.list 126 [.str, .str]]), (2, [.str])], [.int .i64, .list 126 [.str, .str], .str]⟩),
  (73, ⟨.st [(0, [.str]), (1, [.list 126 [.str, .str]]), (2, [.int .i64, .list 126 [.str, .str], .str]), (5, [.int .i64]), (6, [.int .i64])], [.str, .list 126 [.str, .str], .int .i64, .list 126 [.str, .str], .str, .int .i64, .int .i64]⟩),
  (74, ⟨.st [(0, [.str]), (1, [.list 126 [.str, .str]]), (2, [.int .i64, .list 126 [.str, .str], .str]), (5, [.int .i64]), (6, [.int .i64])], [.str, .list 126 [.str, .str], .int .i64, .list 126 [.str, .str], .str, .int .i64, .int .i64]⟩),
  (75, ⟨.st [(0, [.str, .list 126 [.str, .str], .int .i64, .list 126 [.str, .str], .str, .int .i64, .int .i64]), (7, [.bool])], [.str, .list 126 [.str, .str], .int .i64, .list 126 [.str, .str], .str, .int .i64, .int .i64, .bool]⟩),
  (76, ⟨.st [(0, [.str, .list 126 [.str, .str], .int .i64, .list 126 [.str, .str], .str, .int .i64, .int .i64]), (7, [.bool])], [.str, .list 126 [.str, .str], .int .i64, .list 126 [.str, .str], .str, .int .i64, .int .i64, .bool]⟩),
  (78, ⟨.st [(0, [.str]), (1, [.int .i64])], [.str, .int .i64]⟩),
  (79, ⟨.st [(0, [.str]), (1, [.int .i64])], [.str, .int .i64]⟩),
  (95, ⟨.sl 9 [.str] 16, [.list 9 [.str]]⟩),
  (106, ⟨.st [(0, [.str]), (1, [.int .i64])], [.str, .int .i64]⟩),
  (117, ⟨.st [(0, [.str]), (1, [.list 123 [.str, .str]]), (2, [.int .i64, .list 123 [.str, .str], .str]), (5, [.int .i64]), (6, [.int .i64])], [.str, .list 123 [.str, .str], .int .i64, .list 123 [.str, .str], .str, .int .i64, .int .i64]⟩),
  (118, ⟨.st [(0, [.str]), (1, [.list 123 [.str, .str]]), (2, [.int .i64, .list 123 [.str, .str], .str]), (5, [.int .i64]), (6, [.int .i64])], [.str, .list 123 [.str, .str], .int .i64, .list 123 [.str, .str], .str, .int .i64, .int .i64]⟩),
  (119, ⟨.st [(0, [.str, .list 123 [.str, .str], .int .i64, .list 123 [.str, .str], .str, .int .i64, .int .i64]), (7, [.bool])], [.str, .list 123 [.str, .str], .int .i64, .list 123 [.str, .str], .str, .int .i64, .int .i64, .bool]⟩),
  (120, ⟨.st [(0, [.str, .list 123 [.str, .str], .int .i64, .list 123 [.str, .str], .str, .int .i64, .int .i64]), (7, [.bool])], [.str, .list 123 [.str, .str], .int .i64, .list 123 [.str, .str], .str, .int .i64, .int .i64, .bool]⟩),
  (122, ⟨.st [(0, [.str]), (1, [.str])], [.str, .str]⟩),
  (123, ⟨.st [(0, [.str]), (1, [.str])], [.str, .str]⟩),
  (126, ⟨.st [(0, [.str]), (1, [.str])], [.str, .str]⟩),
  (133, ⟨.sl 3 [.int .i64] 8, [.list 3 [.int .i64]]⟩),
  (137, ⟨.sl 139 [.str, .str] 32, [.list 139 [.str, .str]]⟩),
  (139, ⟨.st [(0, [.str]), (1, [.str])], [.str, .str]⟩),
  (152, ⟨.sl 5 [.int .u8] 1, [.list 5 [.int .u8]]⟩),
  (192, ⟨.sc, [.int .i64]⟩),
  (202, ⟨.sc, [.int .u64]⟩),
  (203, ⟨.sc, [.int .u64]⟩),
  (211, ⟨.st [(0, [.int .u8]), (1, [.int .u8])], [.int .u8, .int .u8]⟩),
  (212, ⟨.st [(0, [.int .u8]), (1, [.int .u8])], [.int .u8, .int .u8]⟩),
  (220, ⟨.sc, [.int .u32]⟩),
  (225, ⟨.st [(0, [.str])], [.str]⟩),
  (226, ⟨.st [(0, [.str])], [.str]⟩),
  (240, ⟨.sc, [.int .u8]⟩),
  (241, ⟨.sc, [.int .u8]⟩),
  (243, ⟨.sc, [.int .i32]⟩),
  (244, ⟨.sc, [.int .i32]⟩)]
theorem ttOk : ttB Tryz.prog tt = true := by kernel_rfl
theorem mixOk : Tryz.prog.follows .mixedOrders = true := by kernel_rfl
def J (w : World) : Prop := Lib.TabIs Tryz.prog w "internal/strconv.uint64pow10" .u64 Lib.pow10Tab ∧ ErrAt 1 w ∧ ErrAt 2 w ∧ NumAt 0 w ∧ True
theorem J_below {w w' : World} (h : J w) (hb : Below w.heap.size w w') : J w' := ⟨tab_below h.1 hb, errAt_below h.2.1 hb, errAt_below h.2.2.1 hb, numAt_below h.2.2.2.1 hb, trivial⟩
noncomputable def E89 : Env := { tt, eqs := [], cts := [] }
theorem ok89 : EnvOk Tryz.prog E89 := ⟨ttOk, by kernel_rfl, rfl, mixOk⟩
theorem cs89 (w0 : World) (hJ : J w0) : EnvCts Tryz.prog E89 w0 w0.heap.size := by
  refine ⟨fun c hc => ?_, fun c hc => ?_⟩
  · cases hc
  · cases hc
noncomputable def ct89 : Ct := { f := 89, ps := [.v true .ro ls123, .v false .ro [.int .i64]], rs := [(false, [.int .i64])], shared := false, pre := fun (q : Fld × Int) => pSz q.1 q.2, F := fun (q : Fld × Int) => szF q.1 q.2 }
def st89 : List (SzStep Fld) := [.str (fun x : Fld => x.1), .str (fun x : Fld => x.2)]
theorem c89 (x : Fld) : szSum x st89 = cz x := by
  simp only [szSum, st89, cz_pair, cz_int, cz_bool, cz_str]
  all_goals omega
theorem w89 (x : Fld) (h : wd x) : szFine x st89 := by
  first | simp only [wd_pair] at h | skip
  simp only [szFine, st89, wd_pair, wf_wd]
  simp only [h, and_self]
theorem law89 : ∀ q : Fld × Int, pSz q.1 q.2 → szSt q.1 st89 q.2 (fun r => r = szF q.1 q.2) := fun q hq => szSt_holds q.1 st89 q.2 _ (w89 q.1 hq.1) hq.2.1 hq.2.2 (c89 q.1)
theorem all89 (w : World) (hJ : J w) : CtAt Tryz.prog ct89 w :=
  ct_by ok89 (cs89 w hJ) Tryz.func89 (by kernel_rfl) (H := (hint [])) law89 (by kernel_rfl)
noncomputable def E47 : Env := { tt, eqs := [], cts := [ct89] }
theorem ok47 : EnvOk Tryz.prog E47 := ⟨ttOk, by kernel_rfl, rfl, mixOk⟩
theorem cs47 (w0 : World) (hJ : J w0) : EnvCts Tryz.prog E47 w0 w0.heap.size := by
  refine ⟨fun c hc => ?_, fun c hc => ?_⟩
  · rcases List.mem_cons.1 hc with rfl | hc
    · exact fun w hb => all89 w (J_below hJ hb)
    cases hc
  · cases hc
noncomputable def ct47 : Ct := { f := 47, ps := [.v false .ro ls38, .v false .ro [.int .i64]], rs := [(false, [.int .i64])], shared := false, pre := fun (q : (List Fld) × Int) => pSz q.1 q.2, F := fun (q : (List Fld) × Int) => szF q.1 q.2 }
theorem law47 : ∀ q : (List Fld) × Int, pSz q.1 q.2 → szS (α := Fld) Dft.dft (fun y k => pSz y k) (fun y k => szF y k) q.1 q.2 (fun r => r = szF q.1 q.2) := fun q hq => szS_holds (α := Fld) Dft.dft cz wd q.1 q.2 hq.1.1 hq.1.2 hq.2.1 hq.2.2
theorem all47 (w : World) (hJ : J w) : CtAt Tryz.prog ct47 w :=
  ct_by ok47 (cs47 w hJ) Tryz.func47 (by kernel_rfl) (H := (hint [(5, [.val 1 (.int .i64), .val 5 (.int .i64)])])) law47 (by kernel_rfl)
noncomputable def E14 : Env := { tt, eqs := [], cts := [ct47] }
theorem ok14 : EnvOk Tryz.prog E14 := ⟨ttOk, by kernel_rfl, rfl, mixOk⟩
theorem cs14 (w0 : World) (hJ : J w0) : EnvCts Tryz.prog E14 w0 w0.heap.size := by
  refine ⟨fun c hc => ?_, fun c hc => ?_⟩
  · rcases List.mem_cons.1 hc with rfl | hc
    · exact fun w hb => all47 w (J_below hJ hb)
    cases hc
  · cases hc
noncomputable def ct14 : Ct := { f := 14, ps := [.v true .ro ls40, .v false .ro [.int .i64]], rs := [(false, [.int .i64])], shared := false, pre := fun (q : Req × Int) => pSz q.1 q.2, F := fun (q : Req × Int) => szF q.1 q.2 }
def st14 : List (SzStep Req) := [.str (fun x : Req => x.1), .str (fun x : Req => x.2.1), .call (fun x : Req => wd (x.2.2.1 : (List Fld))) (fun x : Req => cz (x.2.2.1 : (List Fld))), .str (fun x : Req => x.2.2.2)]
theorem c14 (x : Req) : szSum x st14 = cz x := by
  simp only [szSum, st14, cz_pair, cz_int, cz_bool, cz_str]
  all_goals omega
theorem w14 (x : Req) (h : wd x) : szFine x st14 := by
  first | simp only [wd_pair] at h | skip
  simp only [szFine, st14, wd_pair, wf_wd]
  simp only [h, and_self]
theorem law14 : ∀ q : Req × Int, pSz q.1 q.2 → szSt q.1 st14 q.2 (fun r => r = szF q.1 q.2) := fun q hq => szSt_holds q.1 st14 q.2 _ (w14 q.1 hq.1) hq.2.1 hq.2.2 (c14 q.1)
theorem all14 (w : World) (hJ : J w) : CtAt Tryz.prog ct14 w :=
  ct_by ok14 (cs14 w hJ) Tryz.func14 (by kernel_rfl) (H := (hint [])) law14 (by kernel_rfl)
noncomputable def E23 : Env := { tt, eqs := [], cts := [ct47] }
theorem ok23 : EnvOk Tryz.prog E23 := ⟨ttOk, by kernel_rfl, rfl, mixOk⟩
theorem cs23 (w0 : World) (hJ : J w0) : EnvCts Tryz.prog E23 w0 w0.heap.size := by
  refine ⟨fun c hc => ?_, fun c hc => ?_⟩
  · rcases List.mem_cons.1 hc with rfl | hc
    · exact fun w hb => all47 w (J_below hJ hb)
    cases hc
  · cases hc
noncomputable def ct23 : Ct := { f := 23, ps := [.v true .ro ls58, .v false .ro [.int .i64]], rs := [(false, [.int .i64])], shared := false, pre := fun (q : Rsp × Int) => pSz q.1 q.2, F := fun (q : Rsp × Int) => szF q.1 q.2 }
def st23 : List (SzStep Rsp) := [.call (fun x : Rsp => wd (x.2.1 : (List Fld))) (fun x : Rsp => cz (x.2.1 : (List Fld))), .str (fun x : Rsp => x.2.2)]
theorem c23 (x : Rsp) : szSum x st23 = cz x := by
  simp only [szSum, st23, cz_pair, cz_int, cz_bool, cz_str]
  all_goals omega
theorem w23 (x : Rsp) (h : wd x) : szFine x st23 := by
  first | simp only [wd_pair] at h | skip
  simp only [szFine, st23, wd_pair, wf_wd]
  simp only [h, and_self]
theorem law23 : ∀ q : Rsp × Int, pSz q.1 q.2 → szSt q.1 st23 q.2 (fun r => r = szF q.1 q.2) := fun q hq => szSt_holds q.1 st23 q.2 _ (w23 q.1 hq.1) hq.2.1 hq.2.2 (c23 q.1)
theorem all23 (w : World) (hJ : J w) : CtAt Tryz.prog ct23 w :=
  ct_by ok23 (cs23 w hJ) Tryz.func23 (by kernel_rfl) (H := (hint [])) law23 (by kernel_rfl)
noncomputable def E93 : Env := { tt, eqs := [], cts := [] }
theorem ok93 : EnvOk Tryz.prog E93 := ⟨ttOk, by kernel_rfl, rfl, mixOk⟩
theorem cs93 (w0 : World) (hJ : J w0) : EnvCts Tryz.prog E93 w0 w0.heap.size := by
  refine ⟨fun c hc => ?_, fun c hc => ?_⟩
  · cases hc
  · cases hc
noncomputable def ct93 : Ct := { f := 93, ps := [.v true .ro ls123], rs := [(true, ls126)], shared := false, pre := fun (x : Fld) => pTo x, F := fun (x : Fld) => toF x }
theorem law93 : ∀ q : Fld, pTo q → conj [] (q = toF q) := fun q hq => rfl
theorem all93 (w : World) (hJ : J w) : CtAt Tryz.prog ct93 w :=
  ct_by ok93 (cs93 w hJ) Tryz.func93 (by kernel_rfl) (H := (hint [])) law93 (by kernel_rfl)
noncomputable def E50 : Env := { tt, eqs := [], cts := [ct93] }
theorem ok50 : EnvOk Tryz.prog E50 := ⟨ttOk, by kernel_rfl, rfl, mixOk⟩
theorem cs50 (w0 : World) (hJ : J w0) : EnvCts Tryz.prog E50 w0 w0.heap.size := by
  refine ⟨fun c hc => ?_, fun c hc => ?_⟩
  · rcases List.mem_cons.1 hc with rfl | hc
    · exact fun w hb => all93 w (J_below hJ hb)
    cases hc
  · cases hc
noncomputable def ct50 : Ct := { f := 50, ps := [.v false .ro ls38], rs := [(false, ls48)], shared := false, pre := fun (x : (List Fld)) => pTo x, F := fun (x : (List Fld)) => toF x }
theorem law50 : ∀ q : (List Fld), pTo q → toS (α := Fld) Dft.dft 32 (fun y => pTo y) q (fun r => r = toF q) := fun q hq => toS_holds (α := Fld) Dft.dft 32 (fun y => pTo y) q (md_len' hq) (by omega) (fun i a h => md_mem hq (List.mem_of_getElem? h)) rfl
theorem all50 (w : World) (hJ : J w) : CtAt Tryz.prog ct50 w :=
  ct_by ok50 (cs50 w hJ) Tryz.func50 (by kernel_rfl) (H := (hint [(3, [.reg 3 126 ls126 true, .val 4 (.int .i64)])])) law50 (by kernel_rfl)
noncomputable def E17 : Env := { tt, eqs := [], cts := [ct50] }
theorem ok17 : EnvOk Tryz.prog E17 := ⟨ttOk, by kernel_rfl, rfl, mixOk⟩
theorem cs17 (w0 : World) (hJ : J w0) : EnvCts Tryz.prog E17 w0 w0.heap.size := by
  refine ⟨fun c hc => ?_, fun c hc => ?_⟩
  · rcases List.mem_cons.1 hc with rfl | hc
    · exact fun w hb => all50 w (J_below hJ hb)
    cases hc
  · cases hc
noncomputable def ct17 : Ct := { f := 17, ps := [.v true .ro ls40], rs := [(true, ls50)], shared := false, pre := fun (x : Req) => pTo x, F := fun (x : Req) => toF x }
theorem law17 : ∀ q : Req, pTo q → conj [pTo (q.2.2.1 : (List Fld))] (q = toF q) := fun q hq => ⟨(czh (czt (czt hq))), rfl⟩
theorem all17 (w : World) (hJ : J w) : CtAt Tryz.prog ct17 w :=
  ct_by ok17 (cs17 w hJ) Tryz.func17 (by kernel_rfl) (H := (hint [])) law17 (by kernel_rfl)
noncomputable def E25 : Env := { tt, eqs := [], cts := [ct50] }
theorem ok25 : EnvOk Tryz.prog E25 := ⟨ttOk, by kernel_rfl, rfl, mixOk⟩
theorem cs25 (w0 : World) (hJ : J w0) : EnvCts Tryz.prog E25 w0 w0.heap.size := by
  refine ⟨fun c hc => ?_, fun c hc => ?_⟩
  · rcases List.mem_cons.1 hc with rfl | hc
    · exact fun w hb => all50 w (J_below hJ hb)
    cases hc
  · cases hc
noncomputable def ct25 : Ct := { f := 25, ps := [.v true .ro ls58], rs := [(true, ls62)], shared := false, pre := fun (x : Rsp) => pTo x, F := fun (x : Rsp) => toF x }
theorem law25 : ∀ q : Rsp, pTo q → conj [pTo (q.2.1 : (List Fld))] (q = toF q) := fun q hq => ⟨(czh (czt hq)), rfl⟩
theorem all25 (w : World) (hJ : J w) : CtAt Tryz.prog ct25 w :=
  ct_by ok25 (cs25 w hJ) Tryz.func25 (by kernel_rfl) (H := (hint [])) law25 (by kernel_rfl)
noncomputable def E54 : Env := { tt, eqs := [], cts := [] }
theorem ok54 : EnvOk Tryz.prog E54 := ⟨ttOk, by kernel_rfl, rfl, mixOk⟩
theorem cs54 (w0 : World) (hJ : J w0) : EnvCts Tryz.prog E54 w0 w0.heap.size := by
  refine ⟨fun c hc => ?_, fun c hc => ?_⟩
  · cases hc
  · cases hc
noncomputable def ct54 : Ct := { f := 54, ps := [.v false .ro ls48, .v false .ro ls9], rs := [(false, ls9), (false, ls4)], shared := false, pre := fun (x : (List Fld) × S) => pFieldGet x.1 x.2, F := fun (x : (List Fld) × S) => mFieldGet x.1 x.2 }
theorem law54 : ∀ x : (List Fld) × S, pFieldGet x.1 x.2 → s_spec_FieldGet x.1 x.2 (fun r => r = mFieldGet x.1 x.2) := fun x h => spec_FieldGet_ok x.1 x.2 h
theorem all54 (w : World) (hJ : J w) : CtAt Tryz.prog ct54 w :=
  ct_by ok54 (cs54 w hJ) Tryz.func54 (by kernel_rfl) (H := (hint [(4, [.val 6 (.str), .val 7 (.bool), .val 8 (.int .i64)])])) law54 (by kernel_rfl)
noncomputable def E127 : Env := { tt, eqs := [], cts := [] }
theorem ok127 : EnvOk Tryz.prog E127 := ⟨ttOk, by kernel_rfl, rfl, mixOk⟩
theorem cs127 (w0 : World) (hJ : J w0) : EnvCts Tryz.prog E127 w0 w0.heap.size := by
  refine ⟨fun c hc => ?_, fun c hc => ?_⟩
  · cases hc
  · cases hc
noncomputable def ct127 : Ct := { f := 127, ps := [.v false .ro ls5], rs := [(false, ls4)], shared := false, pre := fun (x : Int) => pBlank x, F := fun (x : Int) => mBlank x }
theorem law127 : ∀ x : Int, pBlank x → s_spec_l2Blank x (fun r => r = mBlank x) := fun x _ => spec_l2Blank_ok x
theorem all127 (w : World) (hJ : J w) : CtAt Tryz.prog ct127 w :=
  ct_by ok127 (cs127 w hJ) Tryz.func127 (by kernel_rfl) (H := (hint [])) law127 (by kernel_rfl)
noncomputable def E98 : Env := { tt, eqs := [], cts := [ct127] }
theorem ok98 : EnvOk Tryz.prog E98 := ⟨ttOk, by kernel_rfl, rfl, mixOk⟩
theorem cs98 (w0 : World) (hJ : J w0) : EnvCts Tryz.prog E98 w0 w0.heap.size := by
  refine ⟨fun c hc => ?_, fun c hc => ?_⟩
  · rcases List.mem_cons.1 hc with rfl | hc
    · exact fun w hb => all127 w (J_below hJ hb)
    cases hc
  · cases hc
noncomputable def ct98 : Ct := { f := 98, ps := [.v false .ro ls9], rs := [(false, ls9)], shared := false, pre := fun (x : S) => pTrim x, F := fun (x : S) => mTrim x }
theorem law98 : ∀ x : S, pTrim x → s_spec_Trim x (fun r => r = mTrim x) := fun x h => spec_Trim_ok x h
theorem all98 (w : World) (hJ : J w) : CtAt Tryz.prog ct98 w :=
  ct_by ok98 (cs98 w hJ) Tryz.func98 (by kernel_rfl) (H := (hint [(1, [.val 0 (.str)]), (3, [.val 0 (.str)])])) law98 (by kernel_rfl)
noncomputable def E55 : Env := { tt, eqs := [], cts := [ct98] }
theorem ok55 : EnvOk Tryz.prog E55 := ⟨ttOk, by kernel_rfl, rfl, mixOk⟩
theorem cs55 (w0 : World) (hJ : J w0) : EnvCts Tryz.prog E55 w0 w0.heap.size := by
  refine ⟨fun c hc => ?_, fun c hc => ?_⟩
  · rcases List.mem_cons.1 hc with rfl | hc
    · exact fun w hb => all98 w (J_below hJ hb)
    cases hc
  · cases hc
noncomputable def ct55 : Ct := { f := 55, ps := [.v false .ro ls9], rs := [(false, ls95)], shared := false, pre := fun (x : S) => pSplitList x, F := fun (x : S) => mSplitList x }
theorem law55 : ∀ x : S, pSplitList x → s_spec_SplitList x (fun r => r = mSplitList x) := fun x h => spec_SplitList_ok x h
theorem all55 (w : World) (hJ : J w) : CtAt Tryz.prog ct55 w :=
  ct_by ok55 (cs55 w hJ) Tryz.func55 (by kernel_rfl) (H := (hint [(5, [.reg 3 9 [.str] true, .val 4 (.int .i64), .val 5 (.bool), .val 6 (.int .i64)])])) law55 (by kernel_rfl)
noncomputable def E174 : Env := { tt, eqs := [], cts := [] }
theorem ok174 : EnvOk Tryz.prog E174 := ⟨ttOk, by kernel_rfl, rfl, mixOk⟩
theorem cs174 (w0 : World) (hJ : J w0) : EnvCts Tryz.prog E174 w0 w0.heap.size := by
  refine ⟨fun c hc => ?_, fun c hc => ?_⟩
  · cases hc
  · cases hc
noncomputable def ct174 : Ct := { f := 174, ps := [.v false .ro ls5], rs := [(false, ls4)], shared := false, pre := fun (x : Int) => pToken x, F := fun (x : Int) => mToken x }
theorem law174 : ∀ x : Int, pToken x → s_spec_l2Token x (fun r => r = mToken x) := fun x _ => spec_l2Token_ok x
theorem all174 (w : World) (hJ : J w) : CtAt Tryz.prog ct174 w :=
  ct_by ok174 (cs174 w hJ) Tryz.func174 (by kernel_rfl) (H := (hint [])) law174 (by kernel_rfl)
noncomputable def E142 : Env := { tt, eqs := [], cts := [ct174] }
theorem ok142 : EnvOk Tryz.prog E142 := ⟨ttOk, by kernel_rfl, rfl, mixOk⟩
theorem cs142 (w0 : World) (hJ : J w0) : EnvCts Tryz.prog E142 w0 w0.heap.size := by
  refine ⟨fun c hc => ?_, fun c hc => ?_⟩
  · rcases List.mem_cons.1 hc with rfl | hc
    · exact fun w hb => all174 w (J_below hJ hb)
    cases hc
  · cases hc
noncomputable def ct142 : Ct := { f := 142, ps := [.v false .ro ls9], rs := [(false, ls4)], shared := false, pre := fun (x : S) => pIsTokenText x, F := fun (x : S) => mIsTokenText x }
theorem law142 : ∀ x : S, pIsTokenText x → s_spec_IsTokenText x (fun r => r = mIsTokenText x) := fun x h => spec_IsTokenText_ok x h
theorem all142 (w : World) (hJ : J w) : CtAt Tryz.prog ct142 w :=
  ct_by ok142 (cs142 w hJ) Tryz.func142 (by kernel_rfl) (H := (hint [(2, [.val 3 (.int .i64)])])) law142 (by kernel_rfl)
noncomputable def E143 : Env := { tt, eqs := [], cts := [] }
theorem ok143 : EnvOk Tryz.prog E143 := ⟨ttOk, by kernel_rfl, rfl, mixOk⟩
theorem cs143 (w0 : World) (hJ : J w0) : EnvCts Tryz.prog E143 w0 w0.heap.size := by
  refine ⟨fun c hc => ?_, fun c hc => ?_⟩
  · cases hc
  · cases hc
noncomputable def ct143 : Ct := { f := 143, ps := [.v false .ro ls9], rs := [(false, ls9)], shared := false, pre := fun (x : S) => pLower x, F := fun (x : S) => mLower x }
theorem law143 : ∀ x : S, pLower x → s_spec_Lower x (fun r => r = mLower x) := fun x h => spec_Lower_ok x h
theorem all143 (w : World) (hJ : J w) : CtAt Tryz.prog ct143 w :=
  ct_by ok143 (cs143 w hJ) Tryz.func143 (by kernel_rfl) (H := (hint [(3, [.val 4 (.int .i64), .reg 3 5 [.int .u8] false])])) law143 (by kernel_rfl)
noncomputable def E144 : Env := { tt, eqs := [], cts := [] }
theorem ok144 : EnvOk Tryz.prog E144 := ⟨ttOk, by kernel_rfl, rfl, mixOk⟩
theorem cs144 (w0 : World) (hJ : J w0) : EnvCts Tryz.prog E144 w0 w0.heap.size := by
  refine ⟨fun c hc => ?_, fun c hc => ?_⟩
  · cases hc
  · cases hc
noncomputable def ct144 : Ct := { f := 144, ps := [.v false .ro ls9], rs := [(false, ls9)], shared := false, pre := fun (x : S) => pL7Unquote x, F := fun (x : S) => mL7Unquote x }
theorem law144 : ∀ x : S, pL7Unquote x → s_spec_l7Unquote x (fun r => r = mL7Unquote x) := fun x h => spec_l7Unquote_ok x h
theorem all144 (w : World) (hJ : J w) : CtAt Tryz.prog ct144 w :=
  ct_by ok144 (cs144 w hJ) Tryz.func144 (by kernel_rfl) (H := (hint [])) law144 (by kernel_rfl)
noncomputable def E110 : Env := { tt, eqs := [], cts := [ct54, ct55, ct142, ct143, ct144] }
theorem ok110 : EnvOk Tryz.prog E110 := ⟨ttOk, by kernel_rfl, rfl, mixOk⟩
theorem cs110 (w0 : World) (hJ : J w0) : EnvCts Tryz.prog E110 w0 w0.heap.size := by
  refine ⟨fun c hc => ?_, fun c hc => ?_⟩
  · rcases List.mem_cons.1 hc with rfl | hc
    · exact fun w hb => all54 w (J_below hJ hb)
    rcases List.mem_cons.1 hc with rfl | hc
    · exact fun w hb => all55 w (J_below hJ hb)
    rcases List.mem_cons.1 hc with rfl | hc
    · exact fun w hb => all142 w (J_below hJ hb)
    rcases List.mem_cons.1 hc with rfl | hc
    · exact fun w hb => all143 w (J_below hJ hb)
    rcases List.mem_cons.1 hc with rfl | hc
    · exact fun w hb => all144 w (J_below hJ hb)
    cases hc
  · cases hc
noncomputable def ct110 : Ct := { f := 110, ps := [.v false .ro ls48], rs := [(false, ls137)], shared := false, pre := fun (x : (List Fld)) => pDirectives x, F := fun (x : (List Fld)) => mDirectives x }
theorem law110 : ∀ x : (List Fld), pDirectives x → s_spec_Directives x (fun r => r = mDirectives x) := fun x h => spec_Directives_ok x h
theorem all110 (w : World) (hJ : J w) : CtAt Tryz.prog ct110 w :=
  ct_by ok110 (cs110 w hJ) Tryz.func110 (by kernel_rfl) (H := (hint [(5, [.reg 3 139 [.str, .str] true, .val 7 (.int .i64)]), (9, [.val 9 (.int .i64)])])) law110 (by kernel_rfl)
noncomputable def E68 : Env := { tt, eqs := [], cts := [ct110] }
theorem ok68 : EnvOk Tryz.prog E68 := ⟨ttOk, by kernel_rfl, rfl, mixOk⟩
theorem cs68 (w0 : World) (hJ : J w0) : EnvCts Tryz.prog E68 w0 w0.heap.size := by
  refine ⟨fun c hc => ?_, fun c hc => ?_⟩
  · rcases List.mem_cons.1 hc with rfl | hc
    · exact fun w hb => all110 w (J_below hJ hb)
    cases hc
  · cases hc
noncomputable def ct68 : Ct := { f := 68, ps := [.v false .ro ls48, .v false .ro ls9], rs := [(false, ls4)], shared := false, pre := fun (x : (List Fld) × S) => pCcHas x.1 x.2, F := fun (x : (List Fld) × S) => mCcHas x.1 x.2 }
theorem law68 : ∀ x : (List Fld) × S, pCcHas x.1 x.2 → s_spec_CcHas x.1 x.2 (fun r => r = mCcHas x.1 x.2) := fun x h => spec_CcHas_ok x.1 x.2 h
theorem all68 (w : World) (hJ : J w) : CtAt Tryz.prog ct68 w :=
  ct_by ok68 (cs68 w hJ) Tryz.func68 (by kernel_rfl) (H := (hint [(3, [.val 6 (.int .i64)])])) law68 (by kernel_rfl)
noncomputable def E111 : Env := { tt, eqs := [], cts := [] }
theorem ok111 : EnvOk Tryz.prog E111 := ⟨ttOk, by kernel_rfl, rfl, mixOk⟩
theorem cs111 (w0 : World) (hJ : J w0) : EnvCts Tryz.prog E111 w0 w0.heap.size := by
  refine ⟨fun c hc => ?_, fun c hc => ?_⟩
  · cases hc
  · cases hc
noncomputable def ct111 : Ct := { f := 111, ps := [.v false .ro ls9], rs := [(false, ls3), (false, ls4)], shared := false, pre := fun (x : S) => pSeconds x, F := fun (x : S) => mSeconds x }
theorem law111 : ∀ x : S, pSeconds x → s_spec_Seconds x (fun r => r = mSeconds x) := fun x h => spec_Seconds_ok x h
theorem all111 (w : World) (hJ : J w) : CtAt Tryz.prog ct111 w :=
  ct_by ok111 (cs111 w hJ) Tryz.func111 (by kernel_rfl) (H := (hint [(3, [.val 4 (.int .i64), .val 5 (.int .i64)])])) law111 (by kernel_rfl)
noncomputable def E129 : Env := { tt, eqs := [], cts := [] }
theorem ok129 : EnvOk Tryz.prog E129 := ⟨ttOk, by kernel_rfl, rfl, mixOk⟩
theorem cs129 (w0 : World) (hJ : J w0) : EnvCts Tryz.prog E129 w0 w0.heap.size := by
  refine ⟨fun c hc => ?_, fun c hc => ?_⟩
  · cases hc
  · cases hc
noncomputable def ct129 : Ct := { f := 129, ps := [.v false .ro ls9, .v false .ro ls3, .v false .ro ls3], rs := [(false, ls3)], shared := false, pre := fun (x : S × Int × Int) => pL4Num x.1 x.2.1 x.2.2, F := fun (x : S × Int × Int) => mL4Num x.1 x.2.1 x.2.2 }
theorem law129 : ∀ x : S × Int × Int, pL4Num x.1 x.2.1 x.2.2 → s_spec_l4Num x.1 x.2.1 x.2.2 (fun r => r = mL4Num x.1 x.2.1 x.2.2) := fun x h => spec_l4Num_ok x.1 x.2.1 x.2.2 h
theorem all129 (w : World) (hJ : J w) : CtAt Tryz.prog ct129 w :=
  ct_by ok129 (cs129 w hJ) Tryz.func129 (by kernel_rfl) (H := (hint [(3, [.val 7 (.int .i64), .val 8 (.int .i64)])])) law129 (by kernel_rfl)
noncomputable def E32 : Env := { tt, eqs := [], cts := [] }
theorem ok32 : EnvOk Tryz.prog E32 := ⟨ttOk, by kernel_rfl, rfl, mixOk⟩
theorem cs32 (w0 : World) (hJ : J w0) : EnvCts Tryz.prog E32 w0 w0.heap.size := by
  refine ⟨fun c hc => ?_, fun c hc => ?_⟩
  · cases hc
  · cases hc
noncomputable def ct32 : Ct := { f := 32, ps := [.v false .ro ls3, .v false .ro ls3, .v false .ro ls3], rs := [(false, ls4)], shared := false, pre := fun (x : Int × Int × Int) => pIn x.1 x.2.1 x.2.2, F := fun (x : Int × Int × Int) => mIn x.1 x.2.1 x.2.2 }
theorem law32 : ∀ x : Int × Int × Int, pIn x.1 x.2.1 x.2.2 → s_spec_l1In x.1 x.2.1 x.2.2 (fun r => r = mIn x.1 x.2.1 x.2.2) := fun x _ => spec_l1In_ok x.1 x.2.1 x.2.2
theorem all32 (w : World) (hJ : J w) : CtAt Tryz.prog ct32 w :=
  ct_by ok32 (cs32 w hJ) Tryz.func32 (by kernel_rfl) (H := (hint [])) law32 (by kernel_rfl)
noncomputable def E156 : Env := { tt, eqs := [], cts := [] }
theorem ok156 : EnvOk Tryz.prog E156 := ⟨ttOk, by kernel_rfl, rfl, mixOk⟩
theorem cs156 (w0 : World) (hJ : J w0) : EnvCts Tryz.prog E156 w0 w0.heap.size := by
  refine ⟨fun c hc => ?_, fun c hc => ?_⟩
  · cases hc
  · cases hc
noncomputable def ct156 : Ct := { f := 156, ps := [.v false .ro ls3], rs := [(false, ls4)], shared := false, pre := fun (x : Int) => pIsLeap x, F := fun (x : Int) => mIsLeap x }
theorem law156 : ∀ x : Int, pIsLeap x → s_spec_IsLeap x (fun r => r = mIsLeap x) := fun x h => spec_IsLeap_ok x h
theorem all156 (w : World) (hJ : J w) : CtAt Tryz.prog ct156 w :=
  ct_by ok156 (cs156 w hJ) Tryz.func156 (by kernel_rfl) (H := (hint [])) law156 (by kernel_rfl)
noncomputable def E155 : Env := { tt, eqs := [], cts := [ct156] }
theorem ok155 : EnvOk Tryz.prog E155 := ⟨ttOk, by kernel_rfl, rfl, mixOk⟩
theorem cs155 (w0 : World) (hJ : J w0) : EnvCts Tryz.prog E155 w0 w0.heap.size := by
  refine ⟨fun c hc => ?_, fun c hc => ?_⟩
  · rcases List.mem_cons.1 hc with rfl | hc
    · exact fun w hb => all156 w (J_below hJ hb)
    cases hc
  · cases hc
noncomputable def ct155 : Ct := { f := 155, ps := [.v false .ro ls3], rs := [(false, ls133)], shared := false, pre := fun (x : Int) => pL4Months x, F := fun (x : Int) => mL4Months x }
theorem law155 : ∀ x : Int, pL4Months x → s_spec_l4Months x (fun r => r = mL4Months x) := fun x h => spec_l4Months_ok x h
theorem all155 (w : World) (hJ : J w) : CtAt Tryz.prog ct155 w :=
  ct_by ok155 (cs155 w hJ) Tryz.func155 (by kernel_rfl) (H := (hint [])) law155 (by kernel_rfl)
noncomputable def E128 : Env := { tt, eqs := [], cts := [ct32, ct155, ct156] }
theorem ok128 : EnvOk Tryz.prog E128 := ⟨ttOk, by kernel_rfl, rfl, mixOk⟩
theorem cs128 (w0 : World) (hJ : J w0) : EnvCts Tryz.prog E128 w0 w0.heap.size := by
  refine ⟨fun c hc => ?_, fun c hc => ?_⟩
  · rcases List.mem_cons.1 hc with rfl | hc
    · exact fun w hb => all32 w (J_below hJ hb)
    rcases List.mem_cons.1 hc with rfl | hc
    · exact fun w hb => all155 w (J_below hJ hb)
    rcases List.mem_cons.1 hc with rfl | hc
    · exact fun w hb => all156 w (J_below hJ hb)
    cases hc
  · cases hc
noncomputable def ct128 : Ct := { f := 128, ps := [.v false .ro ls3, .v false .ro ls3, .v false .ro ls3], rs := [(false, ls3)], shared := false, pre := fun (x : Int × Int × Int) => pDaysOf x.1 x.2.1 x.2.2, F := fun (x : Int × Int × Int) => mDaysOf x.1 x.2.1 x.2.2 }
theorem law128 : ∀ x : Int × Int × Int, pDaysOf x.1 x.2.1 x.2.2 → s_spec_DaysOf x.1 x.2.1 x.2.2 (fun r => r = mDaysOf x.1 x.2.1 x.2.2) := fun x h => spec_DaysOf_ok x.1 x.2.1 x.2.2 h
theorem all128 (w : World) (hJ : J w) : CtAt Tryz.prog ct128 w :=
  ct_by ok128 (cs128 w hJ) Tryz.func128 (by kernel_rfl) (H := (hint [(5, [.val 7 (.int .i64), .val 8 (.int .i64)]), (11, [.val 7 (.int .i64), .val 9 (.int .i64)])])) law128 (by kernel_rfl)
noncomputable def E157 : Env := { tt, eqs := [], cts := [] }
theorem ok157 : EnvOk Tryz.prog E157 := ⟨ttOk, by kernel_rfl, rfl, mixOk⟩
theorem cs157 (w0 : World) (hJ : J w0) : EnvCts Tryz.prog E157 w0 w0.heap.size := by
  refine ⟨fun c hc => ?_, fun c hc => ?_⟩
  · cases hc
  · cases hc
noncomputable def ct157 : Ct := { f := 157, ps := [.v false .ro ls3], rs := [(false, ls9)], shared := false, pre := fun (x : Int) => pL4Two x, F := fun (x : Int) => mL4Two x }
theorem law157 : ∀ x : Int, pL4Two x → s_spec_l4Two x (fun r => r = mL4Two x) := fun x h => spec_l4Two_ok x h
theorem all157 (w : World) (hJ : J w) : CtAt Tryz.prog ct157 w :=
  ct_by ok157 (cs157 w hJ) Tryz.func157 (by kernel_rfl) (H := (hint [])) law157 (by kernel_rfl)
noncomputable def E158 : Env := { tt, eqs := [], cts := [] }
theorem ok158 : EnvOk Tryz.prog E158 := ⟨ttOk, by kernel_rfl, rfl, mixOk⟩
theorem cs158 (w0 : World) (hJ : J w0) : EnvCts Tryz.prog E158 w0 w0.heap.size := by
  refine ⟨fun c hc => ?_, fun c hc => ?_⟩
  · cases hc
  · cases hc
noncomputable def ct158 : Ct := { f := 158, ps := [.v false .ro ls3], rs := [(false, ls9)], shared := false, pre := fun (x : Int) => pDec x, F := fun (x : Int) => mDec x }
theorem law158 : ∀ x : Int, pDec x → s_spec_Dec x (fun r => r = mDec x) := fun x h => spec_Dec_ok x h
theorem all158 (w : World) (hJ : J w) : CtAt Tryz.prog ct158 w :=
  ct_by ok158 (cs158 w hJ) Tryz.func158 (by kernel_rfl) (H := (hint [(5, [.val 0 (.int .i64), .val 3 (.str)])])) law158 (by kernel_rfl)
noncomputable def E130 : Env := { tt, eqs := [], cts := [ct32, ct128, ct157, ct158] }
theorem ok130 : EnvOk Tryz.prog E130 := ⟨ttOk, by kernel_rfl, rfl, mixOk⟩
theorem cs130 (w0 : World) (hJ : J w0) : EnvCts Tryz.prog E130 w0 w0.heap.size := by
  refine ⟨fun c hc => ?_, fun c hc => ?_⟩
  · rcases List.mem_cons.1 hc with rfl | hc
    · exact fun w hb => all32 w (J_below hJ hb)
    rcases List.mem_cons.1 hc with rfl | hc
    · exact fun w hb => all128 w (J_below hJ hb)
    rcases List.mem_cons.1 hc with rfl | hc
    · exact fun w hb => all157 w (J_below hJ hb)
    rcases List.mem_cons.1 hc with rfl | hc
    · exact fun w hb => all158 w (J_below hJ hb)
    cases hc
  · cases hc
noncomputable def ct130 : Ct := { f := 130, ps := [.v false .ro ls3], rs := [(false, ls9)], shared := false, pre := fun (x : Int) => pShowDate x, F := fun (x : Int) => mShowDate x }
theorem law130 : ∀ x : Int, pShowDate x → s_spec_ShowDate x (fun r => r = mShowDate x) := fun x h => spec_ShowDate_ok x h
theorem all130 (w : World) (hJ : J w) : CtAt Tryz.prog ct130 w :=
  ct_by ok130 (cs130 w hJ) Tryz.func130 (by kernel_rfl) (H := (hint [(6, [.val 4 (.int .i64)]), (8, [.val 5 (.int .i64)])])) law130 (by kernel_rfl)
noncomputable def E99 : Env := { tt, eqs := [], cts := [ct129, ct128, ct130] }
theorem ok99 : EnvOk Tryz.prog E99 := ⟨ttOk, by kernel_rfl, rfl, mixOk⟩
theorem cs99 (w0 : World) (hJ : J w0) : EnvCts Tryz.prog E99 w0 w0.heap.size := by
  refine ⟨fun c hc => ?_, fun c hc => ?_⟩
  · rcases List.mem_cons.1 hc with rfl | hc
    · exact fun w hb => all129 w (J_below hJ hb)
    rcases List.mem_cons.1 hc with rfl | hc
    · exact fun w hb => all128 w (J_below hJ hb)
    rcases List.mem_cons.1 hc with rfl | hc
    · exact fun w hb => all130 w (J_below hJ hb)
    cases hc
  · cases hc
noncomputable def ct99 : Ct := { f := 99, ps := [.v false .ro ls9], rs := [(false, ls3), (false, ls4)], shared := false, pre := fun (x : S) => pReadDate x, F := fun (x : S) => mReadDate x }
theorem law99 : ∀ x : S, pReadDate x → s_spec_ReadDate x (fun r => r = mReadDate x) := fun x h => spec_ReadDate_ok x h
theorem all99 (w : World) (hJ : J w) : CtAt Tryz.prog ct99 w :=
  ct_by ok99 (cs99 w hJ) Tryz.func99 (by kernel_rfl) (H := (hint [(5, [.val 4 (.int .i64), .val 5 (.int .i64)])])) law99 (by kernel_rfl)
noncomputable def E57 : Env := { tt, eqs := [], cts := [ct54, ct99] }
theorem ok57 : EnvOk Tryz.prog E57 := ⟨ttOk, by kernel_rfl, rfl, mixOk⟩
theorem cs57 (w0 : World) (hJ : J w0) : EnvCts Tryz.prog E57 w0 w0.heap.size := by
  refine ⟨fun c hc => ?_, fun c hc => ?_⟩
  · rcases List.mem_cons.1 hc with rfl | hc
    · exact fun w hb => all54 w (J_below hJ hb)
    rcases List.mem_cons.1 hc with rfl | hc
    · exact fun w hb => all99 w (J_below hJ hb)
    cases hc
  · cases hc
noncomputable def ct57 : Ct := { f := 57, ps := [.v false .ro ls48, .v false .ro ls9], rs := [(false, ls3), (false, ls4)], shared := false, pre := fun (x : (List Fld) × S) => pDateOf x.1 x.2, F := fun (x : (List Fld) × S) => mDateOf x.1 x.2 }
theorem law57 : ∀ x : (List Fld) × S, pDateOf x.1 x.2 → s_spec_DateOf x.1 x.2 (fun r => r = mDateOf x.1 x.2) := fun x h => spec_DateOf_ok x.1 x.2 h
theorem all57 (w : World) (hJ : J w) : CtAt Tryz.prog ct57 w :=
  ct_by ok57 (cs57 w hJ) Tryz.func57 (by kernel_rfl) (H := (hint [])) law57 (by kernel_rfl)
noncomputable def E70 : Env := { tt, eqs := [], cts := [] }
theorem ok70 : EnvOk Tryz.prog E70 := ⟨ttOk, by kernel_rfl, rfl, mixOk⟩
theorem cs70 (w0 : World) (hJ : J w0) : EnvCts Tryz.prog E70 w0 w0.heap.size := by
  refine ⟨fun c hc => ?_, fun c hc => ?_⟩
  · cases hc
  · cases hc
noncomputable def ct70 : Ct := { f := 70, ps := [.v false .ro ls3, .v false .ro ls3], rs := [(false, ls3)], shared := false, pre := fun (x : Int × Int) => pSatAdd x.1 x.2, F := fun (x : Int × Int) => mSatAdd x.1 x.2 }
theorem law70 : ∀ x : Int × Int, pSatAdd x.1 x.2 → s_spec_SatAdd x.1 x.2 (fun r => r = mSatAdd x.1 x.2) := fun x h => spec_SatAdd_ok x.1 x.2 h
theorem all70 (w : World) (hJ : J w) : CtAt Tryz.prog ct70 w :=
  ct_by ok70 (cs70 w hJ) Tryz.func70 (by kernel_rfl) (H := (hint [])) law70 (by kernel_rfl)
noncomputable def E106 : Env := { tt, eqs := [], cts := [ct54, ct111, ct57, ct70] }
theorem ok106 : EnvOk Tryz.prog E106 := ⟨ttOk, by kernel_rfl, rfl, mixOk⟩
theorem cs106 (w0 : World) (hJ : J w0) : EnvCts Tryz.prog E106 w0 w0.heap.size := by
  refine ⟨fun c hc => ?_, fun c hc => ?_⟩
  · rcases List.mem_cons.1 hc with rfl | hc
    · exact fun w hb => all54 w (J_below hJ hb)
    rcases List.mem_cons.1 hc with rfl | hc
    · exact fun w hb => all111 w (J_below hJ hb)
    rcases List.mem_cons.1 hc with rfl | hc
    · exact fun w hb => all57 w (J_below hJ hb)
    rcases List.mem_cons.1 hc with rfl | hc
    · exact fun w hb => all70 w (J_below hJ hb)
    cases hc
  · cases hc
noncomputable def ct106 : Ct := { f := 106, ps := [.v true .ro ls62, .v false .ro ls3, .v false .ro ls3], rs := [(false, ls3)], shared := false, pre := fun (x : Rsp × Int × Int) => pFirstAge x.1 x.2.1 x.2.2, F := fun (x : Rsp × Int × Int) => mFirstAge x.1 x.2.1 x.2.2 }
theorem law106 : ∀ x : Rsp × Int × Int, pFirstAge x.1 x.2.1 x.2.2 → s_spec_FirstAge x.1 x.2.1 x.2.2 (fun r => r = mFirstAge x.1 x.2.1 x.2.2) := fun x h => spec_FirstAge_ok x.1 x.2.1 x.2.2 h
theorem all106 (w : World) (hJ : J w) : CtAt Tryz.prog ct106 w :=
  ct_by ok106 (cs106 w hJ) Tryz.func106 (by kernel_rfl) (H := (hint [])) law106 (by kernel_rfl)
noncomputable def E65 : Env := { tt, eqs := [], cts := [ct106, ct70] }
theorem ok65 : EnvOk Tryz.prog E65 := ⟨ttOk, by kernel_rfl, rfl, mixOk⟩
theorem cs65 (w0 : World) (hJ : J w0) : EnvCts Tryz.prog E65 w0 w0.heap.size := by
  refine ⟨fun c hc => ?_, fun c hc => ?_⟩
  · rcases List.mem_cons.1 hc with rfl | hc
    · exact fun w hb => all106 w (J_below hJ hb)
    rcases List.mem_cons.1 hc with rfl | hc
    · exact fun w hb => all70 w (J_below hJ hb)
    cases hc
  · cases hc
noncomputable def ct65 : Ct := { f := 65, ps := [.v true .ro ls62, .v false .ro ls3, .v false .ro ls3, .v false .ro ls3], rs := [(false, ls3)], shared := false, pre := fun (x : Rsp × Int × Int × Int) => pAgeAt x.1 x.2.1 x.2.2.1 x.2.2.2, F := fun (x : Rsp × Int × Int × Int) => mAgeAt x.1 x.2.1 x.2.2.1 x.2.2.2 }
theorem law65 : ∀ x : Rsp × Int × Int × Int, pAgeAt x.1 x.2.1 x.2.2.1 x.2.2.2 → s_spec_AgeAt x.1 x.2.1 x.2.2.1 x.2.2.2 (fun r => r = mAgeAt x.1 x.2.1 x.2.2.1 x.2.2.2) := fun x h => spec_AgeAt_ok x.1 x.2.1 x.2.2.1 x.2.2.2 h
theorem all65 (w : World) (hJ : J w) : CtAt Tryz.prog ct65 w :=
  ct_by ok65 (cs65 w hJ) Tryz.func65 (by kernel_rfl) (H := (hint [])) law65 (by kernel_rfl)
noncomputable def E69 : Env := { tt, eqs := [], cts := [ct110, ct111] }
theorem ok69 : EnvOk Tryz.prog E69 := ⟨ttOk, by kernel_rfl, rfl, mixOk⟩
theorem cs69 (w0 : World) (hJ : J w0) : EnvCts Tryz.prog E69 w0 w0.heap.size := by
  refine ⟨fun c hc => ?_, fun c hc => ?_⟩
  · rcases List.mem_cons.1 hc with rfl | hc
    · exact fun w hb => all110 w (J_below hJ hb)
    rcases List.mem_cons.1 hc with rfl | hc
    · exact fun w hb => all111 w (J_below hJ hb)
    cases hc
  · cases hc
noncomputable def ct69 : Ct := { f := 69, ps := [.v false .ro ls48, .v false .ro ls9], rs := [(false, ls3), (false, ls4)], shared := false, pre := fun (x : (List Fld) × S) => pCcSeconds x.1 x.2, F := fun (x : (List Fld) × S) => mCcSeconds x.1 x.2 }
theorem law69 : ∀ x : (List Fld) × S, pCcSeconds x.1 x.2 → s_spec_CcSeconds x.1 x.2 (fun r => r = mCcSeconds x.1 x.2) := fun x h => spec_CcSeconds_ok x.1 x.2 h
theorem all69 (w : World) (hJ : J w) : CtAt Tryz.prog ct69 w :=
  ct_by ok69 (cs69 w hJ) Tryz.func69 (by kernel_rfl) (H := (hint [(5, [.val 7 (.int .i64), .val 8 (.bool), .val 9 (.int .i64)])])) law69 (by kernel_rfl)
noncomputable def E64 : Env := { tt, eqs := [], cts := [ct69, ct57, ct54] }
theorem ok64 : EnvOk Tryz.prog E64 := ⟨ttOk, by kernel_rfl, rfl, mixOk⟩
theorem cs64 (w0 : World) (hJ : J w0) : EnvCts Tryz.prog E64 w0 w0.heap.size := by
  refine ⟨fun c hc => ?_, fun c hc => ?_⟩
  · rcases List.mem_cons.1 hc with rfl | hc
    · exact fun w hb => all69 w (J_below hJ hb)
    rcases List.mem_cons.1 hc with rfl | hc
    · exact fun w hb => all57 w (J_below hJ hb)
    rcases List.mem_cons.1 hc with rfl | hc
    · exact fun w hb => all54 w (J_below hJ hb)
    cases hc
  · cases hc
noncomputable def ct64 : Ct := { f := 64, ps := [.v true .ro ls62], rs := [(false, ls3)], shared := false, pre := fun (x : Rsp) => pLifetime x, F := fun (x : Rsp) => mLifetime x }
theorem law64 : ∀ x : Rsp, pLifetime x → s_spec_Lifetime x (fun r => r = mLifetime x) := fun x h => spec_Lifetime_ok x h
theorem all64 (w : World) (hJ : J w) : CtAt Tryz.prog ct64 w :=
  ct_by ok64 (cs64 w hJ) Tryz.func64 (by kernel_rfl) (H := (hint [])) law64 (by kernel_rfl)
noncomputable def E28 : Env := { tt, eqs := [], cts := [ct68, ct65, ct64, ct69, ct70] }
theorem ok28 : EnvOk Tryz.prog E28 := ⟨ttOk, by kernel_rfl, rfl, mixOk⟩
theorem cs28 (w0 : World) (hJ : J w0) : EnvCts Tryz.prog E28 w0 w0.heap.size := by
  refine ⟨fun c hc => ?_, fun c hc => ?_⟩
  · rcases List.mem_cons.1 hc with rfl | hc
    · exact fun w hb => all68 w (J_below hJ hb)
    rcases List.mem_cons.1 hc with rfl | hc
    · exact fun w hb => all65 w (J_below hJ hb)
    rcases List.mem_cons.1 hc with rfl | hc
    · exact fun w hb => all64 w (J_below hJ hb)
    rcases List.mem_cons.1 hc with rfl | hc
    · exact fun w hb => all69 w (J_below hJ hb)
    rcases List.mem_cons.1 hc with rfl | hc
    · exact fun w hb => all70 w (J_below hJ hb)
    cases hc
  · cases hc
noncomputable def ct28 : Ct := { f := 28, ps := [.v true .ro ls50, .v true .ro ls62, .v false .ro ls3, .v false .ro ls3, .v false .ro ls3], rs := [(false, ls4)], shared := false, pre := fun (x : Req × Rsp × Int × Int × Int) => pMustCheck x.1 x.2.1 x.2.2.1 x.2.2.2.1 x.2.2.2.2, F := fun (x : Req × Rsp × Int × Int × Int) => mMustCheck x.1 x.2.1 x.2.2.1 x.2.2.2.1 x.2.2.2.2 }
theorem law28 : ∀ x : Req × Rsp × Int × Int × Int, pMustCheck x.1 x.2.1 x.2.2.1 x.2.2.2.1 x.2.2.2.2 → s_spec_MustCheck x.1 x.2.1 x.2.2.1 x.2.2.2.1 x.2.2.2.2 (fun r => r = mMustCheck x.1 x.2.1 x.2.2.1 x.2.2.2.1 x.2.2.2.2) := fun x h => spec_MustCheck_ok x.1 x.2.1 x.2.2.1 x.2.2.2.1 x.2.2.2.2 h
theorem all28 (w : World) (hJ : J w) : CtAt Tryz.prog ct28 w :=
  ct_by ok28 (cs28 w hJ) Tryz.func28 (by kernel_rfl) (H := (hint [])) law28 (by kernel_rfl)
noncomputable def ct100 : Ct := joinCt 9 100
theorem all100 (w : World) (hJ : J w) : CtAt Tryz.prog ct100 w := join_ct ⟨_, Tryz.func100, by kernel_rfl, by kernel_rfl⟩ (fun a c sep => Tryz.strings_Join_none a c sep w) (fun bk o c xs sep h1 h2 h3 h4 h5 => Tryz.strings_Join bk o c xs sep w h1 h2 h3 h4 h5)
noncomputable def E58 : Env := { tt, eqs := [], cts := [ct100] }
theorem ok58 : EnvOk Tryz.prog E58 := ⟨ttOk, by kernel_rfl, rfl, mixOk⟩
theorem cs58 (w0 : World) (hJ : J w0) : EnvCts Tryz.prog E58 w0 w0.heap.size := by
  refine ⟨fun c hc => ?_, fun c hc => ?_⟩
  · rcases List.mem_cons.1 hc with rfl | hc
    · exact fun w hb => all100 w (J_below hJ hb)
    cases hc
  · cases hc
noncomputable def ct58 : Ct := { f := 58, ps := [.v false .ro ls48, .v false .ro ls9], rs := [(false, ls9), (false, ls4)], shared := false, pre := fun (x : (List Fld) × S) => pFieldGet x.1 x.2, F := fun (x : (List Fld) × S) => mFieldGet x.1 x.2 }
theorem law58 : ∀ x : (List Fld) × S, pFieldGet x.1 x.2 → s_impl_FieldGet x.1 x.2 (fun r => r = mFieldGet x.1 x.2) := fun x h => impl_FieldGet_ok x.1 x.2 h
theorem all58 (w : World) (hJ : J w) : CtAt Tryz.prog ct58 w :=
  ct_by ok58 (cs58 w hJ) Tryz.func58 (by kernel_rfl) (H := (hint [(3, [.reg 6 9 [.str] true, .val 12 (.int .i64)])])) law58 (by kernel_rfl)
noncomputable def E102 : Env := { tt, eqs := [], cts := [] }
theorem ok102 : EnvOk Tryz.prog E102 := ⟨ttOk, by kernel_rfl, rfl, mixOk⟩
theorem cs102 (w0 : World) (hJ : J w0) : EnvCts Tryz.prog E102 w0 w0.heap.size := by
  refine ⟨fun c hc => ?_, fun c hc => ?_⟩
  · cases hc
  · cases hc
noncomputable def ct102 : Ct := { f := 102, ps := [.v false .ro ls9], rs := [(false, ls133)], shared := false, pre := fun (x : S) => pCommas x, F := fun (x : S) => mCommas x }
theorem law102 : ∀ x : S, pCommas x → s_impl_commas x (fun r => r = mCommas x) := fun x h => impl_commas_ok x h
theorem all102 (w : World) (hJ : J w) : CtAt Tryz.prog ct102 w :=
  ct_by ok102 (cs102 w hJ) Tryz.func102 (by kernel_rfl) (H := (hint [(4, [.reg 3 3 [.int .i64] true, .val 4 (.bool), .val 5 (.int .i64)])])) law102 (by kernel_rfl)
noncomputable def ct134 : Ct := trimLCt 134
theorem all134 (w : World) (hJ : J w) : CtAt Tryz.prog ct134 w := trimL_ct ⟨_, Tryz.func134, by kernel_rfl, by kernel_rfl⟩ (fun s cs h1 h2 h3 => Go.Proofs.Any.strings_Trim_laid Tryz.lays160 (by kernel_rfl) s cs w h1 h2 h3)
noncomputable def E103 : Env := { tt, eqs := [], cts := [ct134] }
theorem ok103 : EnvOk Tryz.prog E103 := ⟨ttOk, by kernel_rfl, rfl, mixOk⟩
theorem cs103 (w0 : World) (hJ : J w0) : EnvCts Tryz.prog E103 w0 w0.heap.size := by
  refine ⟨fun c hc => ?_, fun c hc => ?_⟩
  · rcases List.mem_cons.1 hc with rfl | hc
    · exact fun w hb => all134 w (J_below hJ hb)
    cases hc
  · cases hc
noncomputable def ct103 : Ct := { f := 103, ps := [.v false .ro ls9], rs := [(false, ls9)], shared := false, pre := fun (x : S) => pTrim x, F := fun (x : S) => mTrim x }
theorem law103 : ∀ x : S, pTrim x → s_impl_Trim x (fun r => r = mTrim x) := fun x h => impl_Trim_ok x h
theorem all103 (w : World) (hJ : J w) : CtAt Tryz.prog ct103 w :=
  ct_by ok103 (cs103 w hJ) Tryz.func103 (by kernel_rfl) (H := (hint [])) law103 (by kernel_rfl)
noncomputable def E60 : Env := { tt, eqs := [], cts := [ct102, ct103] }
theorem ok60 : EnvOk Tryz.prog E60 := ⟨ttOk, by kernel_rfl, rfl, mixOk⟩
theorem cs60 (w0 : World) (hJ : J w0) : EnvCts Tryz.prog E60 w0 w0.heap.size := by
  refine ⟨fun c hc => ?_, fun c hc => ?_⟩
  · rcases List.mem_cons.1 hc with rfl | hc
    · exact fun w hb => all102 w (J_below hJ hb)
    rcases List.mem_cons.1 hc with rfl | hc
    · exact fun w hb => all103 w (J_below hJ hb)
    cases hc
  · cases hc
noncomputable def ct60 : Ct := { f := 60, ps := [.v false .ro ls9], rs := [(false, ls95)], shared := false, pre := fun (x : S) => pSplitList x, F := fun (x : S) => mSplitList x }
theorem law60 : ∀ x : S, pSplitList x → s_impl_SplitList x (fun r => r = mSplitList x) := fun x h => impl_SplitList_ok x h
theorem all60 (w : World) (hJ : J w) : CtAt Tryz.prog ct60 w :=
  ct_by ok60 (cs60 w hJ) Tryz.func60 (by kernel_rfl) (H := (hint [(4, [.reg 3 9 [.str] true, .val 4 (.int .i64), .val 16 (.int .i64)])])) law60 (by kernel_rfl)
noncomputable def ct146 : Ct := cutCt 146
theorem all146 (w : World) (hJ : J w) : CtAt Tryz.prog ct146 w := cut_ct ⟨_, Tryz.func146, by kernel_rfl, by kernel_rfl⟩ (fun s sep h => hJ.2.2.2.1.elim fun m hm => Tryz.strings_Cut s sep m w h hm)
noncomputable def E176 : Env := { tt, eqs := [], cts := [] }
theorem ok176 : EnvOk Tryz.prog E176 := ⟨ttOk, by kernel_rfl, rfl, mixOk⟩
theorem cs176 (w0 : World) (hJ : J w0) : EnvCts Tryz.prog E176 w0 w0.heap.size := by
  refine ⟨fun c hc => ?_, fun c hc => ?_⟩
  · cases hc
  · cases hc
noncomputable def ct176 : Ct := { f := 176, ps := [.v false .ro ls5], rs := [(false, ls4)], shared := false, pre := fun (x : Int) => pIsLetterOrDigit x, F := fun (x : Int) => mIsLetterOrDigit x }
theorem law176 : ∀ x : Int, pIsLetterOrDigit x → s_impl_isLetterOrDigit x (fun r => r = mIsLetterOrDigit x) := fun x _ => impl_isLetterOrDigit_ok x
theorem all176 (w : World) (hJ : J w) : CtAt Tryz.prog ct176 w :=
  ct_by ok176 (cs176 w hJ) Tryz.func176 (by kernel_rfl) (H := (hint [])) law176 (by kernel_rfl)
noncomputable def ct177 : Ct := indexByteCt 177
theorem all177 (w : World) (hJ : J w) : CtAt Tryz.prog ct177 w := indexByte_ct ⟨_, Tryz.func177, by kernel_rfl, by kernel_rfl⟩ (fun s c => Tryz.strings_IndexByte s c w)
noncomputable def E147 : Env := { tt, eqs := [], cts := [ct176, ct177] }
theorem ok147 : EnvOk Tryz.prog E147 := ⟨ttOk, by kernel_rfl, rfl, mixOk⟩
theorem cs147 (w0 : World) (hJ : J w0) : EnvCts Tryz.prog E147 w0 w0.heap.size := by
  refine ⟨fun c hc => ?_, fun c hc => ?_⟩
  · rcases List.mem_cons.1 hc with rfl | hc
    · exact fun w hb => all176 w (J_below hJ hb)
    rcases List.mem_cons.1 hc with rfl | hc
    · exact fun w hb => all177 w (J_below hJ hb)
    cases hc
  · cases hc
noncomputable def ct147 : Ct := { f := 147, ps := [.v false .ro ls9], rs := [(false, ls4)], shared := false, pre := fun (x : S) => pIsTokenText x, F := fun (x : S) => mIsTokenText x }
theorem law147 : ∀ x : S, pIsTokenText x → s_impl_IsTokenText x (fun r => r = mIsTokenText x) := fun x h => impl_IsTokenText_ok x h
theorem all147 (w : World) (hJ : J w) : CtAt Tryz.prog ct147 w :=
  ct_by ok147 (cs147 w hJ) Tryz.func147 (by kernel_rfl) (H := (hint [(2, [.val 6 (.int .i64)])])) law147 (by kernel_rfl)
set_option maxRecDepth 100000 in
theorem lower_calls148 (s : ByteArray) (hs : s.size ≤ 1073741824) (w : World) : Calls Tryz.prog 148 #[.string s] w fun e w' => e = .returned (.string (mLower s)) ∧ Below w.heap.size w w' := by
  obtain ⟨W1, cap, hconv, hW1⟩ := low_new Tryz.prog 9 152 5 w s Tryz.underlying9 Tryz.underlying152 Tryz.underlying5
  go_enter Tryz.func148, Tryz.ntmps148
  go_wp2
  go_loopg [10] s.size (fun gg v10 wr => ∃ i : Nat, i + gg = s.size ∧ v10 = .int .i64 (i : Int) ∧ Hid (LowW w.heap.size s i w wr))
  case atStart => exact ⟨0, by omega, rfl, hW1⟩
  case round =>
    obtain ⟨i, hi, rfl, hW⟩ := hrel
    have hH := hW.out
    by_cases hlt : i < s.size
    · have hcz := hH.2 i hlt
      rw [if_neg (Nat.lt_irrefl i)] at hcz
      have hlb := low_byte (bs s)[i]!
      have hx : ((bs s)[i]!).toNat < 256 := UInt8.toNat_lt _
      generalize hxe : ((bs s)[i]!).toNat = x at *
      obtain ⟨hc, hz⟩ := hcz
      have d1 : ((i : Int) < (s.size : Int)) := by omega
      have d0 : (0 : Int) ≤ (i : Int) := by omega
      have HC := (show Hid (i < s.size ∧ LowW w.heap.size s i w wr ∧ ((bs s)[i]!).toNat = x) from ⟨hlt, hH, hxe⟩)
      have HL := (show Hid _ from hlb)
      clear hH hlb hW hxe hlt
      by_cases c1 : 65 ≤ x
      · by_cases c2 : x ≤ 90
        · have k1 : decide (65 ≤ (x : Int)) = true := decide_eq_true (by omega)
          have k2 : decide ((x : Int) ≤ 90) = true := decide_eq_true (by omega)
          go_wp2
          go_roundg (gk - 1)
          case measure => have := HC.out.1; omega
          case rel =>
            obtain ⟨hlt, hH, hxe⟩ := HC.out
            refine ⟨i + 1, by omega, by simp, hH.next hlt ?_⟩
            rw [← HL.out.1 ⟨c1, c2⟩, IntKind.wrap_u8, IntKind.wrap_u8]; omega
        · have k1 : decide (65 ≤ (x : Int)) = true := decide_eq_true (by omega)
          have k2 : decide ((x : Int) ≤ 90) = false := decide_eq_false (by omega)
          go_wp2
          go_roundg (gk - 1)
          case measure => have := HC.out.1; omega
          case rel =>
            obtain ⟨hlt, hH, hxe⟩ := HC.out
            exact ⟨i + 1, by omega, by simp, hH.skip hlt (HL.out.2 (fun h => c2 h.2))⟩
      · have k1 : decide (65 ≤ (x : Int)) = false := decide_eq_false (by omega)
        go_wp2
        go_roundg (gk - 1)
        case measure => have := HC.out.1; omega
        case rel =>
          obtain ⟨hlt, hH, hxe⟩ := HC.out
          exact ⟨i + 1, by omega, by simp, hH.skip hlt (HL.out.2 (fun h => c1 h.1))⟩
    · have hie : i = s.size := by omega
      subst hie
      have hb := low_end Tryz.prog 152 9 5 w.heap.size cap w wr s Tryz.underlying152 Tryz.underlying5 Tryz.underlying9 hH
      have HC := (show Hid (Below w.heap.size w wr) from hH.1)
      clear hH hW hlt
      go_wp2
      go_ret
      exact ⟨rfl, HC.out⟩
noncomputable def ct148 : Ct := lowerCt 148
theorem all148 (w : World) (hJ : J w) : CtAt Tryz.prog ct148 w := lower_ct ⟨_, Tryz.func148, by kernel_rfl, by kernel_rfl⟩ (fun s h => lower_calls148 s h w)
noncomputable def E113 : Env := { tt, eqs := [], cts := [ct58, ct60, ct146, ct147, ct148] }
theorem ok113 : EnvOk Tryz.prog E113 := ⟨ttOk, by kernel_rfl, rfl, mixOk⟩
theorem cs113 (w0 : World) (hJ : J w0) : EnvCts Tryz.prog E113 w0 w0.heap.size := by
  refine ⟨fun c hc => ?_, fun c hc => ?_⟩
  · rcases List.mem_cons.1 hc with rfl | hc
    · exact fun w hb => all58 w (J_below hJ hb)
    rcases List.mem_cons.1 hc with rfl | hc
    · exact fun w hb => all60 w (J_below hJ hb)
    rcases List.mem_cons.1 hc with rfl | hc
    · exact fun w hb => all146 w (J_below hJ hb)
    rcases List.mem_cons.1 hc with rfl | hc
    · exact fun w hb => all147 w (J_below hJ hb)
    rcases List.mem_cons.1 hc with rfl | hc
    · exact fun w hb => all148 w (J_below hJ hb)
    cases hc
  · cases hc
noncomputable def ct113 : Ct := { f := 113, ps := [.v false .ro ls48], rs := [(false, ls137)], shared := false, pre := fun (x : (List Fld)) => pDirectives x, F := fun (x : (List Fld)) => mDirectives x }
theorem law113 : ∀ x : (List Fld), pDirectives x → s_impl_Directives x (fun r => r = mDirectives x) := fun x h => impl_Directives_ok x h
theorem all113 (w : World) (hJ : J w) : CtAt Tryz.prog ct113 w :=
  ct_by ok113 (cs113 w hJ) Tryz.func113 (by kernel_rfl) (H := (hint [(4, [.reg 5 139 [.str, .str] true, .val 20 (.int .i64)])])) law113 (by kernel_rfl)
noncomputable def E114 : Env := { tt, eqs := [], cts := [] }
theorem ok114 : EnvOk Tryz.prog E114 := ⟨ttOk, by kernel_rfl, rfl, mixOk⟩
theorem cs114 (w0 : World) (hJ : J w0) : EnvCts Tryz.prog E114 w0 w0.heap.size := by
  refine ⟨fun c hc => ?_, fun c hc => ?_⟩
  · cases hc
  · cases hc
noncomputable def ct114 : Ct := { f := 114, ps := [.v true .ro ls139, .p false ls9], rs := [(false, ls4)], shared := false, pre := fun (x : Fld × S) => pCcHas_1 x.1 x.2, F := fun (x : Fld × S) => mCcHas_1 x.1 x.2 }
theorem law114 : ∀ x : Fld × S, pCcHas_1 x.1 x.2 → s_impl_CcHas_1 x.1 x.2 (fun r => r = mCcHas_1 x.1 x.2) := fun x h => impl_CcHas_1_ok x.1 x.2 h
theorem all114 (w : World) (hJ : J w) : CtAt Tryz.prog ct114 w :=
  ct_by ok114 (cs114 w hJ) Tryz.func114 (by kernel_rfl) (H := (hint [])) law114 (by kernel_rfl)
noncomputable def E145_114 : Env := { tt, eqs := [], cts := [ct114] }
theorem ok145_114 : EnvOk Tryz.prog E145_114 := ⟨ttOk, by kernel_rfl, rfl, mixOk⟩
theorem cs145_114 (w0 : World) (hJ : J w0) : EnvCts Tryz.prog E145_114 w0 w0.heap.size := by
  refine ⟨fun c hc => ?_, fun c hc => ?_⟩
  · rcases List.mem_cons.1 hc with rfl | hc
    · exact fun w hb => all114 w (J_below hJ hb)
    cases hc
  · cases hc
noncomputable def ct145_114 : Ct := { f := 145, ps := [.v false .ro ls137, .c 114 [ls9]], rs := [(false, ls3)], shared := false, pre := fun (x : (List Fld) × S) => pIndexFunc_CcHas_1 x.1 x.2, F := fun (x : (List Fld) × S) => mIndexFunc_CcHas_1 x.1 x.2 }
theorem law145_114 : ∀ x : (List Fld) × S, pIndexFunc_CcHas_1 x.1 x.2 → s_IndexFunc_CcHas_1 x.1 x.2 (fun r => r = mIndexFunc_CcHas_1 x.1 x.2) := fun x h => IndexFunc_CcHas_1_ok x.1 x.2 h
theorem all145_114 (w : World) (hJ : J w) : CtAt Tryz.prog ct145_114 w :=
  ct_by ok145_114 (cs145_114 w hJ) Tryz.func145 (by kernel_rfl) (H := (hint [(2, [.val 8 (.int .i64)])])) law145_114 (by kernel_rfl)
noncomputable def E112_114 : Env := { tt, eqs := [], cts := [ct145_114] }
theorem ok112_114 : EnvOk Tryz.prog E112_114 := ⟨ttOk, by kernel_rfl, rfl, mixOk⟩
theorem cs112_114 (w0 : World) (hJ : J w0) : EnvCts Tryz.prog E112_114 w0 w0.heap.size := by
  refine ⟨fun c hc => ?_, fun c hc => ?_⟩
  · rcases List.mem_cons.1 hc with rfl | hc
    · exact fun w hb => all145_114 w (J_below hJ hb)
    cases hc
  · cases hc
noncomputable def ct112_114 : Ct := { f := 112, ps := [.v false .ro ls137, .c 114 [ls9]], rs := [(false, ls4)], shared := false, pre := fun (x : (List Fld) × S) => pContainsFunc_CcHas_1 x.1 x.2, F := fun (x : (List Fld) × S) => mContainsFunc_CcHas_1 x.1 x.2 }
theorem law112_114 : ∀ x : (List Fld) × S, pContainsFunc_CcHas_1 x.1 x.2 → s_ContainsFunc_CcHas_1 x.1 x.2 (fun r => r = mContainsFunc_CcHas_1 x.1 x.2) := fun x h => ContainsFunc_CcHas_1_ok x.1 x.2 h
theorem all112_114 (w : World) (hJ : J w) : CtAt Tryz.prog ct112_114 w :=
  ct_by ok112_114 (cs112_114 w hJ) Tryz.func112 (by kernel_rfl) (H := (hint [])) law112_114 (by kernel_rfl)
noncomputable def E71 : Env := { tt, eqs := [], cts := [ct113, ct112_114] }
theorem ok71 : EnvOk Tryz.prog E71 := ⟨ttOk, by kernel_rfl, rfl, mixOk⟩
theorem cs71 (w0 : World) (hJ : J w0) : EnvCts Tryz.prog E71 w0 w0.heap.size := by
  refine ⟨fun c hc => ?_, fun c hc => ?_⟩
  · rcases List.mem_cons.1 hc with rfl | hc
    · exact fun w hb => all113 w (J_below hJ hb)
    rcases List.mem_cons.1 hc with rfl | hc
    · exact fun w hb => all112_114 w (J_below hJ hb)
    cases hc
  · cases hc
noncomputable def ct71 : Ct := { f := 71, ps := [.v false .ro ls48, .v false .ro ls9], rs := [(false, ls4)], shared := false, pre := fun (x : (List Fld) × S) => pCcHas x.1 x.2, F := fun (x : (List Fld) × S) => mCcHas x.1 x.2 }
theorem law71 : ∀ x : (List Fld) × S, pCcHas x.1 x.2 → s_impl_CcHas x.1 x.2 (fun r => r = mCcHas x.1 x.2) := fun x h => impl_CcHas_ok x.1 x.2 h
theorem all71 (w : World) (hJ : J w) : CtAt Tryz.prog ct71 w :=
  ct_by ok71 (cs71 w hJ) Tryz.func71 (by kernel_rfl) (H := (hint [])) law71 (by kernel_rfl)
noncomputable def ct136 : Ct := splitCt 9 136
theorem all136 (w : World) (hJ : J w) : CtAt Tryz.prog ct136 w := split_ct ⟨_, Tryz.func136, by kernel_rfl, by kernel_rfl⟩ (fun s sep h1 h2 => hJ.2.2.2.1.elim fun m hm => Tryz.strings_Split s sep m w h1 hm h2)
noncomputable def ct150 : Ct := atoiCt 150
theorem all150 (w : World) (hJ : J w) : CtAt Tryz.prog ct150 w := atoi_ct ⟨_, Tryz.func150, by kernel_rfl, by kernel_rfl⟩ hJ.2.1 hJ.2.2.1
    (fun s h v hv => (Tryz.strconv_Atoi_ok s h v hv w).mono fun e w' ⟨he, hw⟩ => ⟨he, by rcases hw with rfl | ⟨t, rfl⟩; exact Below.refl _ _; exact Lib.bytesWorld_below _ _ _⟩)
    (fun s h hv ev h1 h2 => (Tryz.strconv_Atoi_syntax s h hv ev w h1 h2).mono fun e w' ⟨N, he, _, _, hb⟩ => ⟨_, he, hb⟩)
    (fun s h hv ev h1 h2 => (Tryz.strconv_Atoi_range s h hv ev w h1 h2).mono fun e w' ⟨N, he, _, _, hb⟩ => ⟨_, he, hb⟩)
noncomputable def E138 : Env := { tt, eqs := [], cts := [ct150] }
theorem ok138 : EnvOk Tryz.prog E138 := ⟨ttOk, by kernel_rfl, rfl, mixOk⟩
theorem cs138 (w0 : World) (hJ : J w0) : EnvCts Tryz.prog E138 w0 w0.heap.size := by
  refine ⟨fun c hc => ?_, fun c hc => ?_⟩
  · rcases List.mem_cons.1 hc with rfl | hc
    · exact fun w hb => all150 w (J_below hJ hb)
    cases hc
  · cases hc
noncomputable def ct138 : Ct := { f := 138, ps := [.v false .ro ls9], rs := [(false, ls3)], shared := false, pre := fun (x : S) => pNumber x, F := fun (x : S) => mNumber x }
theorem law138 : ∀ x : S, pNumber x → s_impl_number x (fun r => r = mNumber x) := fun x h => impl_number_ok x h
theorem all138 (w : World) (hJ : J w) : CtAt Tryz.prog ct138 w :=
  ct_by ok138 (cs138 w hJ) Tryz.func138 (by kernel_rfl) (H := (hint [(2, [.val 8 (.int .i64)])])) law138 (by kernel_rfl)
noncomputable def E140 : Env := { tt, eqs := [], cts := [] }
theorem ok140 : EnvOk Tryz.prog E140 := ⟨ttOk, by kernel_rfl, rfl, mixOk⟩
theorem cs140 (w0 : World) (hJ : J w0) : EnvCts Tryz.prog E140 w0 w0.heap.size := by
  refine ⟨fun c hc => ?_, fun c hc => ?_⟩
  · cases hc
  · cases hc
noncomputable def ct140 : Ct := { f := 140, ps := [], rs := [(false, ls95)], shared := false, pre := fun (x : Unit) => pMonths (), F := fun (x : Unit) => mMonths () }
theorem law140 : ∀ x : Unit, pMonths () → s_impl_months  (fun r => r = mMonths ()) := fun x h => impl_months_ok
theorem all140 (w : World) (hJ : J w) : CtAt Tryz.prog ct140 w :=
  ct_by ok140 (cs140 w hJ) Tryz.func140 (by kernel_rfl) (H := (hint [])) law140 (by kernel_rfl)
noncomputable def E139 : Env := { tt, eqs := [], cts := [] }
theorem ok139 : EnvOk Tryz.prog E139 := ⟨ttOk, by kernel_rfl, rfl, mixOk⟩
theorem cs139 (w0 : World) (hJ : J w0) : EnvCts Tryz.prog E139 w0 w0.heap.size := by
  refine ⟨fun c hc => ?_, fun c hc => ?_⟩
  · cases hc
  · cases hc
noncomputable def ct139 : Ct := { f := 139, ps := [.v false .ro ls95, .v false .ro ls9], rs := [(false, ls3)], shared := false, pre := fun (x : (List S) × S) => pIndex_string x.1 x.2, F := fun (x : (List S) × S) => mIndex_string x.1 x.2 }
theorem law139 : ∀ x : (List S) × S, pIndex_string x.1 x.2 → s_slices_Index_string x.1 x.2 (fun r => r = mIndex_string x.1 x.2) := fun x h => slices_Index_string_ok x.1 x.2 h
theorem all139 (w : World) (hJ : J w) : CtAt Tryz.prog ct139 w :=
  ct_by ok139 (cs139 w hJ) Tryz.func139 (by kernel_rfl) (H := (hint [(2, [.val 8 (.int .i64)])])) law139 (by kernel_rfl)
noncomputable def E38 : Env := { tt, eqs := [], cts := [] }
theorem ok38 : EnvOk Tryz.prog E38 := ⟨ttOk, by kernel_rfl, rfl, mixOk⟩
theorem cs38 (w0 : World) (hJ : J w0) : EnvCts Tryz.prog E38 w0 w0.heap.size := by
  refine ⟨fun c hc => ?_, fun c hc => ?_⟩
  · cases hc
  · cases hc
noncomputable def ct38 : Ct := { f := 38, ps := [.v false .ro ls3, .v false .ro ls3, .v false .ro ls3], rs := [(false, ls4)], shared := false, pre := fun (x : Int × Int × Int) => pIn x.1 x.2.1 x.2.2, F := fun (x : Int × Int × Int) => mIn x.1 x.2.1 x.2.2 }
theorem law38 : ∀ x : Int × Int × Int, pIn x.1 x.2.1 x.2.2 → s_impl_in x.1 x.2.1 x.2.2 (fun r => r = mIn x.1 x.2.1 x.2.2) := fun x _ => impl_in_ok x.1 x.2.1 x.2.2
theorem all38 (w : World) (hJ : J w) : CtAt Tryz.prog ct38 w :=
  ct_by ok38 (cs38 w hJ) Tryz.func38 (by kernel_rfl) (H := (hint [])) law38 (by kernel_rfl)
noncomputable def E192 : Env := { tt, eqs := [], cts := [] }
theorem ok192 : EnvOk Tryz.prog E192 := ⟨ttOk, by kernel_rfl, rfl, mixOk⟩
theorem cs192 (w0 : World) (hJ : J w0) : EnvCts Tryz.prog E192 w0 w0.heap.size := by
  refine ⟨fun c hc => ?_, fun c hc => ?_⟩
  · cases hc
  · cases hc
noncomputable def ct192 : Ct := { f := 192, ps := [.v false .ro ls3], rs := [(false, ls4)], shared := false, pre := fun (x : Int) => pIsLeap x, F := fun (x : Int) => mIsLeap x }
theorem law192 : ∀ x : Int, pIsLeap x → s_impl_IsLeap x (fun r => r = mIsLeap x) := fun x h => impl_IsLeap_ok x h
theorem all192 (w : World) (hJ : J w) : CtAt Tryz.prog ct192 w :=
  ct_by ok192 (cs192 w hJ) Tryz.func192 (by kernel_rfl) (H := (hint [])) law192 (by kernel_rfl)
noncomputable def E170 : Env := { tt, eqs := [], cts := [ct192] }
theorem ok170 : EnvOk Tryz.prog E170 := ⟨ttOk, by kernel_rfl, rfl, mixOk⟩
theorem cs170 (w0 : World) (hJ : J w0) : EnvCts Tryz.prog E170 w0 w0.heap.size := by
  refine ⟨fun c hc => ?_, fun c hc => ?_⟩
  · rcases List.mem_cons.1 hc with rfl | hc
    · exact fun w hb => all192 w (J_below hJ hb)
    cases hc
  · cases hc
noncomputable def ct170 : Ct := { f := 170, ps := [.v false .ro ls3, .v false .ro ls3], rs := [(false, ls3)], shared := false, pre := fun (x : Int × Int) => pMonthDays x.1 x.2, F := fun (x : Int × Int) => mMonthDays x.1 x.2 }
theorem law170 : ∀ x : Int × Int, pMonthDays x.1 x.2 → s_impl_monthDays x.1 x.2 (fun r => r = mMonthDays x.1 x.2) := fun x h => impl_monthDays_ok x.1 x.2 h
theorem all170 (w : World) (hJ : J w) : CtAt Tryz.prog ct170 w :=
  ct_by ok170 (cs170 w hJ) Tryz.func170 (by kernel_rfl) (H := (hint [])) law170 (by kernel_rfl)
noncomputable def E171 : Env := { tt, eqs := [], cts := [ct192] }
theorem ok171 : EnvOk Tryz.prog E171 := ⟨ttOk, by kernel_rfl, rfl, mixOk⟩
theorem cs171 (w0 : World) (hJ : J w0) : EnvCts Tryz.prog E171 w0 w0.heap.size := by
  refine ⟨fun c hc => ?_, fun c hc => ?_⟩
  · rcases List.mem_cons.1 hc with rfl | hc
    · exact fun w hb => all192 w (J_below hJ hb)
    cases hc
  · cases hc
noncomputable def ct171 : Ct := { f := 171, ps := [.v false .ro ls3], rs := [(false, ls3)], shared := false, pre := fun (x : Int) => pYearDays x, F := fun (x : Int) => mYearDays x }
theorem law171 : ∀ x : Int, pYearDays x → s_impl_yearDays x (fun r => r = mYearDays x) := fun x h => impl_yearDays_ok x h
theorem all171 (w : World) (hJ : J w) : CtAt Tryz.prog ct171 w :=
  ct_by ok171 (cs171 w hJ) Tryz.func171 (by kernel_rfl) (H := (hint [])) law171 (by kernel_rfl)
noncomputable def E137 : Env := { tt, eqs := [], cts := [ct38, ct170, ct171] }
theorem ok137 : EnvOk Tryz.prog E137 := ⟨ttOk, by kernel_rfl, rfl, mixOk⟩
theorem cs137 (w0 : World) (hJ : J w0) : EnvCts Tryz.prog E137 w0 w0.heap.size := by
  refine ⟨fun c hc => ?_, fun c hc => ?_⟩
  · rcases List.mem_cons.1 hc with rfl | hc
    · exact fun w hb => all38 w (J_below hJ hb)
    rcases List.mem_cons.1 hc with rfl | hc
    · exact fun w hb => all170 w (J_below hJ hb)
    rcases List.mem_cons.1 hc with rfl | hc
    · exact fun w hb => all171 w (J_below hJ hb)
    cases hc
  · cases hc
noncomputable def ct137 : Ct := { f := 137, ps := [.v false .ro ls3, .v false .ro ls3, .v false .ro ls3], rs := [(false, ls3)], shared := false, pre := fun (x : Int × Int × Int) => pDaysOf x.1 x.2.1 x.2.2, F := fun (x : Int × Int × Int) => mDaysOf x.1 x.2.1 x.2.2 }
theorem law137 : ∀ x : Int × Int × Int, pDaysOf x.1 x.2.1 x.2.2 → s_impl_DaysOf x.1 x.2.1 x.2.2 (fun r => r = mDaysOf x.1 x.2.1 x.2.2) := fun x h => impl_DaysOf_ok x.1 x.2.1 x.2.2 h
theorem all137 (w : World) (hJ : J w) : CtAt Tryz.prog ct137 w :=
  ct_by ok137 (cs137 w hJ) Tryz.func137 (by kernel_rfl) (H := (hint [(5, [.val 7 (.int .i64), .val 8 (.int .i64)]), (9, [.val 7 (.int .i64), .val 9 (.int .i64)])])) law137 (by kernel_rfl)
noncomputable def ct173 : Ct := itoaCt 173
theorem all173 (w : World) (hJ : J w) : CtAt Tryz.prog ct173 w := itoa_ct ⟨_, Tryz.func173, by kernel_rfl, by kernel_rfl⟩ (fun k h0 h1 => Tryz.strconv_Itoa k h0 h1 w hJ.1)
noncomputable def E172 : Env := { tt, eqs := [], cts := [ct173] }
theorem ok172 : EnvOk Tryz.prog E172 := ⟨ttOk, by kernel_rfl, rfl, mixOk⟩
theorem cs172 (w0 : World) (hJ : J w0) : EnvCts Tryz.prog E172 w0 w0.heap.size := by
  refine ⟨fun c hc => ?_, fun c hc => ?_⟩
  · rcases List.mem_cons.1 hc with rfl | hc
    · exact fun w hb => all173 w (J_below hJ hb)
    cases hc
  · cases hc
noncomputable def ct172 : Ct := { f := 172, ps := [.v false .ro ls3], rs := [(false, ls9)], shared := false, pre := fun (x : Int) => pTwo x, F := fun (x : Int) => mTwo x }
theorem law172 : ∀ x : Int, pTwo x → s_impl_two x (fun r => r = mTwo x) := fun x h => impl_two_ok x h
theorem all172 (w : World) (hJ : J w) : CtAt Tryz.prog ct172 w :=
  ct_by ok172 (cs172 w hJ) Tryz.func172 (by kernel_rfl) (H := (hint [])) law172 (by kernel_rfl)
noncomputable def E141 : Env := { tt, eqs := [], cts := [ct38, ct171, ct170, ct172, ct140, ct173] }
theorem ok141 : EnvOk Tryz.prog E141 := ⟨ttOk, by kernel_rfl, rfl, mixOk⟩
theorem cs141 (w0 : World) (hJ : J w0) : EnvCts Tryz.prog E141 w0 w0.heap.size := by
  refine ⟨fun c hc => ?_, fun c hc => ?_⟩
  · rcases List.mem_cons.1 hc with rfl | hc
    · exact fun w hb => all38 w (J_below hJ hb)
    rcases List.mem_cons.1 hc with rfl | hc
    · exact fun w hb => all171 w (J_below hJ hb)
    rcases List.mem_cons.1 hc with rfl | hc
    · exact fun w hb => all170 w (J_below hJ hb)
    rcases List.mem_cons.1 hc with rfl | hc
    · exact fun w hb => all172 w (J_below hJ hb)
    rcases List.mem_cons.1 hc with rfl | hc
    · exact fun w hb => all140 w (J_below hJ hb)
    rcases List.mem_cons.1 hc with rfl | hc
    · exact fun w hb => all173 w (J_below hJ hb)
    cases hc
  · cases hc
noncomputable def ct141 : Ct := { f := 141, ps := [.v false .ro ls3], rs := [(false, ls9)], shared := false, pre := fun (x : Int) => pShowDate x, F := fun (x : Int) => mShowDate x }
theorem law141 : ∀ x : Int, pShowDate x → s_impl_ShowDate x (fun r => r = mShowDate x) := fun x h => impl_ShowDate_ok x h
theorem all141 (w : World) (hJ : J w) : CtAt Tryz.prog ct141 w :=
  ct_by ok141 (cs141 w hJ) Tryz.func141 (by kernel_rfl) (H := (hint [(6, [.val 3 (.int .i64), .val 6 (.int .i64)]), (9, [.val 3 (.int .i64), .val 7 (.int .i64)])])) law141 (by kernel_rfl)
noncomputable def E105 : Env := { tt, eqs := [], cts := [ct136, ct138, ct140, ct139, ct137, ct141] }
theorem ok105 : EnvOk Tryz.prog E105 := ⟨ttOk, by kernel_rfl, rfl, mixOk⟩
theorem cs105 (w0 : World) (hJ : J w0) : EnvCts Tryz.prog E105 w0 w0.heap.size := by
  refine ⟨fun c hc => ?_, fun c hc => ?_⟩
  · rcases List.mem_cons.1 hc with rfl | hc
    · exact fun w hb => all136 w (J_below hJ hb)
    rcases List.mem_cons.1 hc with rfl | hc
    · exact fun w hb => all138 w (J_below hJ hb)
    rcases List.mem_cons.1 hc with rfl | hc
    · exact fun w hb => all140 w (J_below hJ hb)
    rcases List.mem_cons.1 hc with rfl | hc
    · exact fun w hb => all139 w (J_below hJ hb)
    rcases List.mem_cons.1 hc with rfl | hc
    · exact fun w hb => all137 w (J_below hJ hb)
    rcases List.mem_cons.1 hc with rfl | hc
    · exact fun w hb => all141 w (J_below hJ hb)
    cases hc
  · cases hc
noncomputable def ct105 : Ct := { f := 105, ps := [.v false .ro ls9], rs := [(false, ls3), (false, ls4)], shared := false, pre := fun (x : S) => pReadDate x, F := fun (x : S) => mReadDate x }
theorem law105 : ∀ x : S, pReadDate x → s_impl_ReadDate x (fun r => r = mReadDate x) := fun x h => impl_ReadDate_ok x h
theorem all105 (w : World) (hJ : J w) : CtAt Tryz.prog ct105 w :=
  ct_by ok105 (cs105 w hJ) Tryz.func105 (by kernel_rfl) (H := (hint [])) law105 (by kernel_rfl)
noncomputable def E63 : Env := { tt, eqs := [], cts := [ct58, ct105] }
theorem ok63 : EnvOk Tryz.prog E63 := ⟨ttOk, by kernel_rfl, rfl, mixOk⟩
theorem cs63 (w0 : World) (hJ : J w0) : EnvCts Tryz.prog E63 w0 w0.heap.size := by
  refine ⟨fun c hc => ?_, fun c hc => ?_⟩
  · rcases List.mem_cons.1 hc with rfl | hc
    · exact fun w hb => all58 w (J_below hJ hb)
    rcases List.mem_cons.1 hc with rfl | hc
    · exact fun w hb => all105 w (J_below hJ hb)
    cases hc
  · cases hc
noncomputable def ct63 : Ct := { f := 63, ps := [.v false .ro ls48, .v false .ro ls9], rs := [(false, ls3), (false, ls4)], shared := false, pre := fun (x : (List Fld) × S) => pDateOf x.1 x.2, F := fun (x : (List Fld) × S) => mDateOf x.1 x.2 }
theorem law63 : ∀ x : (List Fld) × S, pDateOf x.1 x.2 → s_impl_DateOf x.1 x.2 (fun r => r = mDateOf x.1 x.2) := fun x h => impl_DateOf_ok x.1 x.2 h
theorem all63 (w : World) (hJ : J w) : CtAt Tryz.prog ct63 w :=
  ct_by ok63 (cs63 w hJ) Tryz.func63 (by kernel_rfl) (H := (hint [])) law63 (by kernel_rfl)
noncomputable def E108 : Env := { tt, eqs := [], cts := [] }
theorem ok108 : EnvOk Tryz.prog E108 := ⟨ttOk, by kernel_rfl, rfl, mixOk⟩
theorem cs108 (w0 : World) (hJ : J w0) : EnvCts Tryz.prog E108 w0 w0.heap.size := by
  refine ⟨fun c hc => ?_, fun c hc => ?_⟩
  · cases hc
  · cases hc
noncomputable def ct108 : Ct := { f := 108, ps := [.v false .ro ls3, .v false .ro ls3], rs := [(false, ls3)], shared := false, pre := fun (x : Int × Int) => pLater x.1 x.2, F := fun (x : Int × Int) => mLater x.1 x.2 }
theorem law108 : ∀ x : Int × Int, pLater x.1 x.2 → s_impl_later x.1 x.2 (fun r => r = mLater x.1 x.2) := fun x h => impl_later_ok x.1 x.2 h
theorem all108 (w : World) (hJ : J w) : CtAt Tryz.prog ct108 w :=
  ct_by ok108 (cs108 w hJ) Tryz.func108 (by kernel_rfl) (H := (hint [])) law108 (by kernel_rfl)
noncomputable def E116 : Env := { tt, eqs := [], cts := [] }
theorem ok116 : EnvOk Tryz.prog E116 := ⟨ttOk, by kernel_rfl, rfl, mixOk⟩
theorem cs116 (w0 : World) (hJ : J w0) : EnvCts Tryz.prog E116 w0 w0.heap.size := by
  refine ⟨fun c hc => ?_, fun c hc => ?_⟩
  · cases hc
  · cases hc
noncomputable def ct116 : Ct := { f := 116, ps := [.v false .ro ls3], rs := [(false, ls3)], shared := false, pre := fun (x : Int) => pWithin x, F := fun (x : Int) => mWithin x }
theorem law116 : ∀ x : Int, pWithin x → s_impl_within x (fun r => r = mWithin x) := fun x h => impl_within_ok x h
theorem all116 (w : World) (hJ : J w) : CtAt Tryz.prog ct116 w :=
  ct_by ok116 (cs116 w hJ) Tryz.func116 (by kernel_rfl) (H := (hint [])) law116 (by kernel_rfl)
noncomputable def ct149 : Ct := trimLeftCt 149
theorem all149 (w : World) (hJ : J w) : CtAt Tryz.prog ct149 w := trimLeft_ct ⟨_, Tryz.func149, by kernel_rfl, by kernel_rfl⟩ (fun s => Tryz.strings_TrimLeft_one s 48 (by decide) w)
noncomputable def E115 : Env := { tt, eqs := [], cts := [ct149, ct150] }
theorem ok115 : EnvOk Tryz.prog E115 := ⟨ttOk, by kernel_rfl, rfl, mixOk⟩
theorem cs115 (w0 : World) (hJ : J w0) : EnvCts Tryz.prog E115 w0 w0.heap.size := by
  refine ⟨fun c hc => ?_, fun c hc => ?_⟩
  · rcases List.mem_cons.1 hc with rfl | hc
    · exact fun w hb => all149 w (J_below hJ hb)
    rcases List.mem_cons.1 hc with rfl | hc
    · exact fun w hb => all150 w (J_below hJ hb)
    cases hc
  · cases hc
noncomputable def ct115 : Ct := { f := 115, ps := [.v false .ro ls9], rs := [(false, ls3), (false, ls4)], shared := false, pre := fun (x : S) => pSeconds x, F := fun (x : S) => mSeconds x }
theorem law115 : ∀ x : S, pSeconds x → s_impl_Seconds x (fun r => r = mSeconds x) := fun x h => impl_Seconds_ok x h
theorem all115 (w : World) (hJ : J w) : CtAt Tryz.prog ct115 w :=
  ct_by ok115 (cs115 w hJ) Tryz.func115 (by kernel_rfl) (H := (hint [(2, [.val 10 (.int .i64)])])) law115 (by kernel_rfl)
noncomputable def E73 : Env := { tt, eqs := [], cts := [ct116] }
theorem ok73 : EnvOk Tryz.prog E73 := ⟨ttOk, by kernel_rfl, rfl, mixOk⟩
theorem cs73 (w0 : World) (hJ : J w0) : EnvCts Tryz.prog E73 w0 w0.heap.size := by
  refine ⟨fun c hc => ?_, fun c hc => ?_⟩
  · rcases List.mem_cons.1 hc with rfl | hc
    · exact fun w hb => all116 w (J_below hJ hb)
    cases hc
  · cases hc
noncomputable def ct73 : Ct := { f := 73, ps := [.v false .ro ls3, .v false .ro ls3], rs := [(false, ls3)], shared := false, pre := fun (x : Int × Int) => pSatAdd x.1 x.2, F := fun (x : Int × Int) => mSatAdd x.1 x.2 }
theorem law73 : ∀ x : Int × Int, pSatAdd x.1 x.2 → s_impl_SatAdd x.1 x.2 (fun r => r = mSatAdd x.1 x.2) := fun x h => impl_SatAdd_ok x.1 x.2 h
theorem all73 (w : World) (hJ : J w) : CtAt Tryz.prog ct73 w :=
  ct_by ok73 (cs73 w hJ) Tryz.func73 (by kernel_rfl) (H := (hint [])) law73 (by kernel_rfl)
noncomputable def E109 : Env := { tt, eqs := [], cts := [ct63, ct108, ct116, ct58, ct115, ct73] }
theorem ok109 : EnvOk Tryz.prog E109 := ⟨ttOk, by kernel_rfl, rfl, mixOk⟩
theorem cs109 (w0 : World) (hJ : J w0) : EnvCts Tryz.prog E109 w0 w0.heap.size := by
  refine ⟨fun c hc => ?_, fun c hc => ?_⟩
  · rcases List.mem_cons.1 hc with rfl | hc
    · exact fun w hb => all63 w (J_below hJ hb)
    rcases List.mem_cons.1 hc with rfl | hc
    · exact fun w hb => all108 w (J_below hJ hb)
    rcases List.mem_cons.1 hc with rfl | hc
    · exact fun w hb => all116 w (J_below hJ hb)
    rcases List.mem_cons.1 hc with rfl | hc
    · exact fun w hb => all58 w (J_below hJ hb)
    rcases List.mem_cons.1 hc with rfl | hc
    · exact fun w hb => all115 w (J_below hJ hb)
    rcases List.mem_cons.1 hc with rfl | hc
    · exact fun w hb => all73 w (J_below hJ hb)
    cases hc
  · cases hc
noncomputable def ct109 : Ct := { f := 109, ps := [.v true .ro ls62, .v false .ro ls3, .v false .ro ls3], rs := [(false, ls3)], shared := false, pre := fun (x : Rsp × Int × Int) => pFirstAge x.1 x.2.1 x.2.2, F := fun (x : Rsp × Int × Int) => mFirstAge x.1 x.2.1 x.2.2 }
theorem law109 : ∀ x : Rsp × Int × Int, pFirstAge x.1 x.2.1 x.2.2 → s_impl_FirstAge x.1 x.2.1 x.2.2 (fun r => r = mFirstAge x.1 x.2.1 x.2.2) := fun x h => impl_FirstAge_ok x.1 x.2.1 x.2.2 h
theorem all109 (w : World) (hJ : J w) : CtAt Tryz.prog ct109 w :=
  ct_by ok109 (cs109 w hJ) Tryz.func109 (by kernel_rfl) (H := (hint [])) law109 (by kernel_rfl)
noncomputable def E67 : Env := { tt, eqs := [], cts := [ct109, ct108, ct73] }
theorem ok67 : EnvOk Tryz.prog E67 := ⟨ttOk, by kernel_rfl, rfl, mixOk⟩
theorem cs67 (w0 : World) (hJ : J w0) : EnvCts Tryz.prog E67 w0 w0.heap.size := by
  refine ⟨fun c hc => ?_, fun c hc => ?_⟩
  · rcases List.mem_cons.1 hc with rfl | hc
    · exact fun w hb => all109 w (J_below hJ hb)
    rcases List.mem_cons.1 hc with rfl | hc
    · exact fun w hb => all108 w (J_below hJ hb)
    rcases List.mem_cons.1 hc with rfl | hc
    · exact fun w hb => all73 w (J_below hJ hb)
    cases hc
  · cases hc
noncomputable def ct67 : Ct := { f := 67, ps := [.v true .ro ls62, .v false .ro ls3, .v false .ro ls3, .v false .ro ls3], rs := [(false, ls3)], shared := false, pre := fun (x : Rsp × Int × Int × Int) => pAgeAt x.1 x.2.1 x.2.2.1 x.2.2.2, F := fun (x : Rsp × Int × Int × Int) => mAgeAt x.1 x.2.1 x.2.2.1 x.2.2.2 }
theorem law67 : ∀ x : Rsp × Int × Int × Int, pAgeAt x.1 x.2.1 x.2.2.1 x.2.2.2 → s_impl_AgeAt x.1 x.2.1 x.2.2.1 x.2.2.2 (fun r => r = mAgeAt x.1 x.2.1 x.2.2.1 x.2.2.2) := fun x h => impl_AgeAt_ok x.1 x.2.1 x.2.2.1 x.2.2.2 h
theorem all67 (w : World) (hJ : J w) : CtAt Tryz.prog ct67 w :=
  ct_by ok67 (cs67 w hJ) Tryz.func67 (by kernel_rfl) (H := (hint [])) law67 (by kernel_rfl)
noncomputable def E72 : Env := { tt, eqs := [], cts := [ct113, ct115] }
theorem ok72 : EnvOk Tryz.prog E72 := ⟨ttOk, by kernel_rfl, rfl, mixOk⟩
theorem cs72 (w0 : World) (hJ : J w0) : EnvCts Tryz.prog E72 w0 w0.heap.size := by
  refine ⟨fun c hc => ?_, fun c hc => ?_⟩
  · rcases List.mem_cons.1 hc with rfl | hc
    · exact fun w hb => all113 w (J_below hJ hb)
    rcases List.mem_cons.1 hc with rfl | hc
    · exact fun w hb => all115 w (J_below hJ hb)
    cases hc
  · cases hc
noncomputable def ct72 : Ct := { f := 72, ps := [.v false .ro ls48, .v false .ro ls9], rs := [(false, ls3), (false, ls4)], shared := false, pre := fun (x : (List Fld) × S) => pCcSeconds x.1 x.2, F := fun (x : (List Fld) × S) => mCcSeconds x.1 x.2 }
theorem law72 : ∀ x : (List Fld) × S, pCcSeconds x.1 x.2 → s_impl_CcSeconds x.1 x.2 (fun r => r = mCcSeconds x.1 x.2) := fun x h => impl_CcSeconds_ok x.1 x.2 h
theorem all72 (w : World) (hJ : J w) : CtAt Tryz.prog ct72 w :=
  ct_by ok72 (cs72 w hJ) Tryz.func72 (by kernel_rfl) (H := (hint [(3, [.val 6 (.int .i64), .val 7 (.bool), .val 15 (.int .i64)])])) law72 (by kernel_rfl)
noncomputable def E107 : Env := { tt, eqs := [], cts := [ct58] }
theorem ok107 : EnvOk Tryz.prog E107 := ⟨ttOk, by kernel_rfl, rfl, mixOk⟩
theorem cs107 (w0 : World) (hJ : J w0) : EnvCts Tryz.prog E107 w0 w0.heap.size := by
  refine ⟨fun c hc => ?_, fun c hc => ?_⟩
  · rcases List.mem_cons.1 hc with rfl | hc
    · exact fun w hb => all58 w (J_below hJ hb)
    cases hc
  · cases hc
noncomputable def ct107 : Ct := { f := 107, ps := [.v false .ro ls48, .v false .ro ls9], rs := [(false, ls4)], shared := false, pre := fun (x : (List Fld) × S) => pHasField x.1 x.2, F := fun (x : (List Fld) × S) => mHasField x.1 x.2 }
theorem law107 : ∀ x : (List Fld) × S, pHasField x.1 x.2 → s_impl_hasField x.1 x.2 (fun r => r = mHasField x.1 x.2) := fun x h => impl_hasField_ok x.1 x.2 h
theorem all107 (w : World) (hJ : J w) : CtAt Tryz.prog ct107 w :=
  ct_by ok107 (cs107 w hJ) Tryz.func107 (by kernel_rfl) (H := (hint [])) law107 (by kernel_rfl)
noncomputable def E66 : Env := { tt, eqs := [], cts := [ct72, ct63, ct107, ct108] }
theorem ok66 : EnvOk Tryz.prog E66 := ⟨ttOk, by kernel_rfl, rfl, mixOk⟩
theorem cs66 (w0 : World) (hJ : J w0) : EnvCts Tryz.prog E66 w0 w0.heap.size := by
  refine ⟨fun c hc => ?_, fun c hc => ?_⟩
  · rcases List.mem_cons.1 hc with rfl | hc
    · exact fun w hb => all72 w (J_below hJ hb)
    rcases List.mem_cons.1 hc with rfl | hc
    · exact fun w hb => all63 w (J_below hJ hb)
    rcases List.mem_cons.1 hc with rfl | hc
    · exact fun w hb => all107 w (J_below hJ hb)
    rcases List.mem_cons.1 hc with rfl | hc
    · exact fun w hb => all108 w (J_below hJ hb)
    cases hc
  · cases hc
noncomputable def ct66 : Ct := { f := 66, ps := [.v true .ro ls62], rs := [(false, ls3)], shared := false, pre := fun (x : Rsp) => pLifetime x, F := fun (x : Rsp) => mLifetime x }
theorem law66 : ∀ x : Rsp, pLifetime x → s_impl_Lifetime x (fun r => r = mLifetime x) := fun x h => impl_Lifetime_ok x h
theorem all66 (w : World) (hJ : J w) : CtAt Tryz.prog ct66 w :=
  ct_by ok66 (cs66 w hJ) Tryz.func66 (by kernel_rfl) (H := (hint [(2, [.val 15 (.int .i64)])])) law66 (by kernel_rfl)
noncomputable def E29 : Env := { tt, eqs := [], cts := [ct71, ct67, ct66, ct72, ct73] }
theorem ok29 : EnvOk Tryz.prog E29 := ⟨ttOk, by kernel_rfl, rfl, mixOk⟩
theorem cs29 (w0 : World) (hJ : J w0) : EnvCts Tryz.prog E29 w0 w0.heap.size := by
  refine ⟨fun c hc => ?_, fun c hc => ?_⟩
  · rcases List.mem_cons.1 hc with rfl | hc
    · exact fun w hb => all71 w (J_below hJ hb)
    rcases List.mem_cons.1 hc with rfl | hc
    · exact fun w hb => all67 w (J_below hJ hb)
    rcases List.mem_cons.1 hc with rfl | hc
    · exact fun w hb => all66 w (J_below hJ hb)
    rcases List.mem_cons.1 hc with rfl | hc
    · exact fun w hb => all72 w (J_below hJ hb)
    rcases List.mem_cons.1 hc with rfl | hc
    · exact fun w hb => all73 w (J_below hJ hb)
    cases hc
  · cases hc
noncomputable def ct29 : Ct := { f := 29, ps := [.v true .ro ls50, .v true .ro ls62, .v false .ro ls3, .v false .ro ls3, .v false .ro ls3], rs := [(false, ls4)], shared := false, pre := fun (x : Req × Rsp × Int × Int × Int) => pMustCheck x.1 x.2.1 x.2.2.1 x.2.2.2.1 x.2.2.2.2, F := fun (x : Req × Rsp × Int × Int × Int) => mMustCheck x.1 x.2.1 x.2.2.1 x.2.2.2.1 x.2.2.2.2 }
theorem law29 : ∀ x : Req × Rsp × Int × Int × Int, pMustCheck x.1 x.2.1 x.2.2.1 x.2.2.2.1 x.2.2.2.2 → s_impl_MustCheck x.1 x.2.1 x.2.2.1 x.2.2.2.1 x.2.2.2.2 (fun r => r = mMustCheck x.1 x.2.1 x.2.2.1 x.2.2.2.1 x.2.2.2.2) := fun x h => impl_MustCheck_ok x.1 x.2.1 x.2.2.1 x.2.2.2.1 x.2.2.2.2 h
theorem all29 (w : World) (hJ : J w) : CtAt Tryz.prog ct29 w :=
  ct_by ok29 (cs29 w hJ) Tryz.func29 (by kernel_rfl) (H := (hint [])) law29 (by kernel_rfl)
noncomputable def E97 : Env := { tt, eqs := [], cts := [] }
theorem ok97 : EnvOk Tryz.prog E97 := ⟨ttOk, by kernel_rfl, rfl, mixOk⟩
theorem cs97 (w0 : World) (hJ : J w0) : EnvCts Tryz.prog E97 w0 w0.heap.size := by
  refine ⟨fun c hc => ?_, fun c hc => ?_⟩
  · cases hc
  · cases hc
noncomputable def ct97 : Ct := { f := 97, ps := [.v true .ro ls126, .v true .ro ls126], rs := [(false, [.bool])], shared := false, pre := fun (q : Fld × Fld) => pEq q.1 q.2, F := fun (q : Fld × Fld) => eqF q.1 q.2 }
def st97 : List (EqStep Fld) := [.ne (fun (x y : Fld) => x.1 ≠ y.1), .ne (fun (x y : Fld) => x.2 ≠ y.2)]
def mk97 (a0 : S) (a1 : S) : Fld := (a0, a1)
theorem a97 (x y : Fld) : eqAll x y st97 ↔ x = y := by
  constructor
  · rintro ⟨h0, h1, -⟩
    have h0 : x.1 = y.1 := Classical.byContradiction h0
    have h1 : x.2 = y.2 := Classical.byContradiction h1
    show mk97 (x.1) (x.2) = mk97 (y.1) (y.2)
    rw [h0, h1]
    all_goals rfl
  · rintro rfl
    exact ⟨fun h => h rfl, fun h => h rfl, trivial⟩
theorem w97 (x y : Fld) (h : wd x) : eqFine x y st97 := by
  first | simp only [wd_pair] at h | skip
  simp only [eqFine, st97, wd_pair]
  all_goals simp only [h, and_self]
theorem law97 : ∀ q : Fld × Fld, pEq q.1 q.2 → eqSt q.1 q.2 st97 (fun r => r = eqF q.1 q.2) := fun q hq => eqSt_holds q.1 q.2 st97 (w97 q.1 q.2 hq) (eqF_iff.trans (a97 q.1 q.2).symm)
theorem all97 (w : World) (hJ : J w) : CtAt Tryz.prog ct97 w :=
  ct_by ok97 (cs97 w hJ) Tryz.func97 (by kernel_rfl) (H := (hint [])) law97 (by kernel_rfl)
noncomputable def E53 : Env := { tt, eqs := [], cts := [ct97] }
theorem ok53 : EnvOk Tryz.prog E53 := ⟨ttOk, by kernel_rfl, rfl, mixOk⟩
theorem cs53 (w0 : World) (hJ : J w0) : EnvCts Tryz.prog E53 w0 w0.heap.size := by
  refine ⟨fun c hc => ?_, fun c hc => ?_⟩
  · rcases List.mem_cons.1 hc with rfl | hc
    · exact fun w hb => all97 w (J_below hJ hb)
    cases hc
  · cases hc
noncomputable def ct53 : Ct := { f := 53, ps := [.v false .ro ls48, .v false .ro ls48], rs := [(false, [.bool])], shared := false, pre := fun (q : (List Fld) × (List Fld)) => pEq q.1 q.2, F := fun (q : (List Fld) × (List Fld)) => eqF q.1 q.2 }
theorem law53 : ∀ q : (List Fld) × (List Fld), pEq q.1 q.2 → eqS (α := Fld) Dft.dft (fun a b => pEq a b) (fun a b => eqF a b) q.1 q.2 (fun r => r = eqF q.1 q.2) := fun q hq => eqS_holds (α := Fld) Dft.dft (fun a b => pEq a b) (fun a b => eqF a b) q.1 q.2 hq.1 (fun i a _ h => hq.2 i a h) (fun _ _ => eqF_iff) eqF_iff
theorem all53 (w : World) (hJ : J w) : CtAt Tryz.prog ct53 w :=
  ct_by ok53 (cs53 w hJ) Tryz.func53 (by kernel_rfl) (H := (hint [(4, [.val 5 (.int .i64)])])) law53 (by kernel_rfl)
noncomputable def E20 : Env := { tt, eqs := [], cts := [ct53] }
theorem ok20 : EnvOk Tryz.prog E20 := ⟨ttOk, by kernel_rfl, rfl, mixOk⟩
theorem cs20 (w0 : World) (hJ : J w0) : EnvCts Tryz.prog E20 w0 w0.heap.size := by
  refine ⟨fun c hc => ?_, fun c hc => ?_⟩
  · rcases List.mem_cons.1 hc with rfl | hc
    · exact fun w hb => all53 w (J_below hJ hb)
    cases hc
  · cases hc
noncomputable def ct20 : Ct := { f := 20, ps := [.v true .ro ls50, .v true .ro ls50], rs := [(false, [.bool])], shared := false, pre := fun (q : Req × Req) => pEq q.1 q.2, F := fun (q : Req × Req) => eqF q.1 q.2 }
def st20 : List (EqStep Req) := [.ne (fun (x y : Req) => x.1 ≠ y.1), .ne (fun (x y : Req) => x.2.1 ≠ y.2.1), .call (fun (x _ : Req) => wd (x.2.2.1 : (List Fld))) (fun (x y : Req) => eqF (x.2.2.1 : (List Fld)) y.2.2.1), .ne (fun (x y : Req) => x.2.2.2 ≠ y.2.2.2)]
def mk20 (a0 : S) (a1 : S) (a2 : (List Fld)) (a3 : S) : Req := (a0, a1, a2, a3)
theorem a20 (x y : Req) : eqAll x y st20 ↔ x = y := by
  constructor
  · rintro ⟨h0, h1, h2, h3, -⟩
    have h0 : x.1 = y.1 := Classical.byContradiction h0
    have h1 : x.2.1 = y.2.1 := Classical.byContradiction h1
    have h2 : (x.2.2.1 : (List Fld)) = y.2.2.1 := eqF_iff.1 h2
    have h3 : x.2.2.2 = y.2.2.2 := Classical.byContradiction h3
    show mk20 (x.1) (x.2.1) (x.2.2.1) (x.2.2.2) = mk20 (y.1) (y.2.1) (y.2.2.1) (y.2.2.2)
    rw [h0, h1, h2, h3]
    all_goals rfl
  · rintro rfl
    exact ⟨fun h => h rfl, fun h => h rfl, eqF_iff.2 rfl, fun h => h rfl, trivial⟩
theorem w20 (x y : Req) (h : wd x) : eqFine x y st20 := by
  first | simp only [wd_pair] at h | skip
  simp only [eqFine, st20, wd_pair]
  all_goals simp only [h, and_self]
theorem law20 : ∀ q : Req × Req, pEq q.1 q.2 → eqSt q.1 q.2 st20 (fun r => r = eqF q.1 q.2) := fun q hq => eqSt_holds q.1 q.2 st20 (w20 q.1 q.2 hq) (eqF_iff.trans (a20 q.1 q.2).symm)
theorem all20 (w : World) (hJ : J w) : CtAt Tryz.prog ct20 w :=
  ct_by ok20 (cs20 w hJ) Tryz.func20 (by kernel_rfl) (H := (hint [])) law20 (by kernel_rfl)
noncomputable def E27 : Env := { tt, eqs := [], cts := [ct53] }
theorem ok27 : EnvOk Tryz.prog E27 := ⟨ttOk, by kernel_rfl, rfl, mixOk⟩
theorem cs27 (w0 : World) (hJ : J w0) : EnvCts Tryz.prog E27 w0 w0.heap.size := by
  refine ⟨fun c hc => ?_, fun c hc => ?_⟩
  · rcases List.mem_cons.1 hc with rfl | hc
    · exact fun w hb => all53 w (J_below hJ hb)
    cases hc
  · cases hc
noncomputable def ct27 : Ct := { f := 27, ps := [.v true .ro ls62, .v true .ro ls62], rs := [(false, [.bool])], shared := false, pre := fun (q : Rsp × Rsp) => pEq q.1 q.2, F := fun (q : Rsp × Rsp) => eqF q.1 q.2 }
def st27 : List (EqStep Rsp) := [.ne (fun (x y : Rsp) => x.1 ≠ y.1), .call (fun (x _ : Rsp) => wd (x.2.1 : (List Fld))) (fun (x y : Rsp) => eqF (x.2.1 : (List Fld)) y.2.1), .ne (fun (x y : Rsp) => x.2.2 ≠ y.2.2)]
def mk27 (a0 : Int) (a1 : (List Fld)) (a2 : S) : Rsp := (a0, a1, a2)
theorem a27 (x y : Rsp) : eqAll x y st27 ↔ x = y := by
  constructor
  · rintro ⟨h0, h1, h2, -⟩
    have h0 : x.1 = y.1 := Classical.byContradiction h0
    have h1 : (x.2.1 : (List Fld)) = y.2.1 := eqF_iff.1 h1
    have h2 : x.2.2 = y.2.2 := Classical.byContradiction h2
    show mk27 (x.1) (x.2.1) (x.2.2) = mk27 (y.1) (y.2.1) (y.2.2)
    rw [h0, h1, h2]
    all_goals rfl
  · rintro rfl
    exact ⟨fun h => h rfl, eqF_iff.2 rfl, fun h => h rfl, trivial⟩
theorem w27 (x y : Rsp) (h : wd x) : eqFine x y st27 := by
  first | simp only [wd_pair] at h | skip
  simp only [eqFine, st27, wd_pair]
  all_goals simp only [h, and_self]
theorem law27 : ∀ q : Rsp × Rsp, pEq q.1 q.2 → eqSt q.1 q.2 st27 (fun r => r = eqF q.1 q.2) := fun q hq => eqSt_holds q.1 q.2 st27 (w27 q.1 q.2 hq) (eqF_iff.trans (a27 q.1 q.2).symm)
theorem all27 (w : World) (hJ : J w) : CtAt Tryz.prog ct27 w :=
  ct_by ok27 (cs27 w hJ) Tryz.func27 (by kernel_rfl) (H := (hint [])) law27 (by kernel_rfl)
noncomputable def E7 : Env := { tt, eqs := [], cts := [ct14, ct23, ct17, ct25, ct28, ct29, ct20, ct27] }
theorem ok7 : EnvOk Tryz.prog E7 := ⟨ttOk, by kernel_rfl, rfl, mixOk⟩
theorem cs7 (w0 : World) (hJ : J w0) : EnvCts Tryz.prog E7 w0 w0.heap.size := by
  refine ⟨fun c hc => ?_, fun c hc => ?_⟩
  · rcases List.mem_cons.1 hc with rfl | hc
    · exact fun w hb => all14 w (J_below hJ hb)
    rcases List.mem_cons.1 hc with rfl | hc
    · exact fun w hb => all23 w (J_below hJ hb)
    rcases List.mem_cons.1 hc with rfl | hc
    · exact fun w hb => all17 w (J_below hJ hb)
    rcases List.mem_cons.1 hc with rfl | hc
    · exact fun w hb => all25 w (J_below hJ hb)
    rcases List.mem_cons.1 hc with rfl | hc
    · exact fun w hb => all28 w (J_below hJ hb)
    rcases List.mem_cons.1 hc with rfl | hc
    · exact fun w hb => all29 w (J_below hJ hb)
    rcases List.mem_cons.1 hc with rfl | hc
    · exact fun w hb => all20 w (J_below hJ hb)
    rcases List.mem_cons.1 hc with rfl | hc
    · exact fun w hb => all27 w (J_below hJ hb)
    cases hc
  · cases hc
noncomputable def ct7 : Ct := boolCt 7 [.v true .ro ls40, .v true .ro ls58, .v false .ro ls3, .v false .ro ls3, .v false .ro ls3] (fun (x : Req × Rsp × Int × Int × Int) => p_FnExactMustCheck x.1 x.2.1 x.2.2.1 x.2.2.2.1 x.2.2.2.2)
theorem law7 : ∀ x : Req × Rsp × Int × Int × Int, p_FnExactMustCheck x.1 x.2.1 x.2.2.1 x.2.2.2.1 x.2.2.2.2 → s_laws_FnExactMustCheck x.1 x.2.1 x.2.2.1 x.2.2.2.1 x.2.2.2.2 (fun r => r = true) := fun x h => laws_FnExactMustCheck_ok x.1 x.2.1 x.2.2.1 x.2.2.2.1 x.2.2.2.2 h
theorem all7 (w : World) (hJ : J w) : CtAt Tryz.prog ct7 w :=
  ct_by ok7 (cs7 w hJ) Tryz.func7 (by kernel_rfl) (H := (hint [])) law7 (by kernel_rfl)
end Go.Proofs.YtlkhfjhnpedabaaGreatDoor.ApM
end
