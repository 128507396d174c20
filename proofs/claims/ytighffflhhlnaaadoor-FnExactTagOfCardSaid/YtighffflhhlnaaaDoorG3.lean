/- A small verified machine for the operations of the given program, and plain laws of what its functions compute; without conditions of its own. Part 4. -/
import Derived.Test.YtighffflhhlnaaaDoorG2
import Derived.Test.YtighffflhhlnaaaDoorShelf

section
set_option linter.unusedVariables false
namespace Go.Proofs.YtighffflhhlnaaaDoor.Ap
open Go Go.Ev Go.Proofs Go.RowKit
abbrev ls3 : List L := [.int .i64]
abbrev ls4 : List L := [.bool]
abbrev ls9 : List L := [.str]
def tt : List (Nat × TI) := [
  (2, ⟨.sc, [.int .i64]⟩),
  (3, ⟨.sc, [.int .i64]⟩),
  (4, ⟨.sc, [.bool]⟩),
  (5, ⟨.sc, [.int .u8]⟩),
  (6, ⟨.sc, [.int .u8]⟩),
  (7, ⟨.st [(0, [.int .i64]), (1, [.int .i64]), (2, [.bool]), (3, [.int .u8])], [.int .i64, .int .i64, .bool, .int .u8]⟩),
  (8, ⟨.st [(0, [.int .i64]), (1, [.int .i64]), (2, [.bool]), (3, [.int .u8])], [.int .i64, .int .i64, .bool, .int .u8]⟩),
  (9, ⟨.sc, [.str]⟩),
  (10, ⟨.sc, [.str]⟩),
  (11, ⟨.sc, [.str]⟩),
  (12, ⟨.sc, [.int .u64]⟩),
  (13, ⟨.st [(0, [.str]), (1, [.int .u64])], [.str, .int .u64]⟩),
  (14, ⟨.st [(0, [.str]), (1, [.int .u64])], [.str, .int .u64]⟩),
  (21, ⟨.sc, [.int .i32]⟩),
  (25, ⟨.sl 5 [.int .u8] 1, [.list 5 [.int .u8]]⟩),
  (28, ⟨.sc, [.int .u64]⟩),
  (36, ⟨.sc, [.int .u32]⟩),
  (38, ⟨.sc, [.int .u64]⟩),
  (50, ⟨.sc, [.int .u8]⟩),
  (51, ⟨.sc, [.int .u8]⟩),
  (54, ⟨.sc, [.int .i32]⟩),
  (55, ⟨.sc, [.int .i32]⟩)]
theorem ttOk : ttB Tryd.prog tt = true := by kernel_rfl
theorem mixOk : Tryd.prog.follows .mixedOrders = true := by kernel_rfl
def J (w : World) : Prop := Lib.TabIs Tryd.prog w "internal/strconv.uint64pow10" .u64 Lib.pow10Tab ∧ True
theorem J_below {w w' : World} (h : J w) (hb : Below w.heap.size w w') : J w' := ⟨tab_below h.1 hb, trivial⟩
def E6 : Env := { tt, eqs := [], cts := [] }
theorem ok6 : EnvOk Tryd.prog E6 := ⟨ttOk, by kernel_rfl, rfl, mixOk⟩
theorem cs6 (w0 : World) (hJ : J w0) : EnvCts Tryd.prog E6 w0 := by
  intro c hc
  cases hc
def ct6 : Ct := { f := 6, ps := [.v false .ro ls3, .v false .ro ls3, .v false .ro ls3], rs := [(false, ls4)], shared := false, pre := fun (x : Int × Int × Int) => pIn x.1 x.2.1 x.2.2, F := fun (x : Int × Int × Int) => mIn x.1 x.2.1 x.2.2 }
theorem law6 : ∀ x : Int × Int × Int, pIn x.1 x.2.1 x.2.2 → s_spec_l1In x.1 x.2.1 x.2.2 (fun r => r = mIn x.1 x.2.1 x.2.2) := fun x _ => spec_l1In_ok x.1 x.2.1 x.2.2
theorem all6 (w : World) (hJ : J w) : CtAt Tryd.prog ct6 w :=
  ct_by ok6 (cs6 w hJ) Tryd.func6 (by kernel_rfl) (H := (hint [])) law6 (by kernel_rfl)
def E7 : Env := { tt, eqs := [], cts := [] }
theorem ok7 : EnvOk Tryd.prog E7 := ⟨ttOk, by kernel_rfl, rfl, mixOk⟩
theorem cs7 (w0 : World) (hJ : J w0) : EnvCts Tryd.prog E7 w0 := by
  intro c hc
  cases hc
def ct7 : Ct := { f := 7, ps := [.v false .ro ls3], rs := [(false, ls9)], shared := false, pre := fun (x : Int) => pDec x, F := fun (x : Int) => mDec x }
theorem law7 : ∀ x : Int, pDec x → s_spec_Dec x (fun r => r = mDec x) := fun x h => spec_Dec_ok x h
theorem all7 (w : World) (hJ : J w) : CtAt Tryd.prog ct7 w :=
  ct_by ok7 (cs7 w hJ) Tryd.func7 (by kernel_rfl) (H := (hint [(5, [.val 0 (.int .i64), .val 3 (.str)])])) law7 (by kernel_rfl)
def E4 : Env := { tt, eqs := [], cts := [ct6, ct7] }
theorem ok4 : EnvOk Tryd.prog E4 := ⟨ttOk, by kernel_rfl, rfl, mixOk⟩
theorem cs4 (w0 : World) (hJ : J w0) : EnvCts Tryd.prog E4 w0 := by
  intro c hc
  rcases List.mem_cons.1 hc with rfl | hc
  · exact fun w hb => all6 w (J_below hJ hb)
  rcases List.mem_cons.1 hc with rfl | hc
  · exact fun w hb => all7 w (J_below hJ hb)
  cases hc
def ct4 : Ct := { f := 4, ps := [.v false .ro ls3], rs := [(false, ls9)], shared := false, pre := fun (x : Int) => pTagOf x, F := fun (x : Int) => mTagOf x }
theorem law4 : ∀ x : Int, pTagOf x → s_spec_TagOf x (fun r => r = mTagOf x) := fun x h => spec_TagOf_ok x h
theorem all4 (w : World) (hJ : J w) : CtAt Tryd.prog ct4 w :=
  ct_by ok4 (cs4 w hJ) Tryd.func4 (by kernel_rfl) (H := (hint [])) law4 (by kernel_rfl)
def E8 : Env := { tt, eqs := [], cts := [] }
theorem ok8 : EnvOk Tryd.prog E8 := ⟨ttOk, by kernel_rfl, rfl, mixOk⟩
theorem cs8 (w0 : World) (hJ : J w0) : EnvCts Tryd.prog E8 w0 := by
  intro c hc
  cases hc
def ct8 : Ct := { f := 8, ps := [.v false .ro ls3, .v false .ro ls3, .v false .ro ls3], rs := [(false, ls4)], shared := false, pre := fun (x : Int × Int × Int) => pIn x.1 x.2.1 x.2.2, F := fun (x : Int × Int × Int) => mIn x.1 x.2.1 x.2.2 }
theorem law8 : ∀ x : Int × Int × Int, pIn x.1 x.2.1 x.2.2 → s_impl_in x.1 x.2.1 x.2.2 (fun r => r = mIn x.1 x.2.1 x.2.2) := fun x _ => impl_in_ok x.1 x.2.1 x.2.2
theorem all8 (w : World) (hJ : J w) : CtAt Tryd.prog ct8 w :=
  ct_by ok8 (cs8 w hJ) Tryd.func8 (by kernel_rfl) (H := (hint [])) law8 (by kernel_rfl)
def ct10 : Ct := itoaCt 10
theorem all10 (w : World) (hJ : J w) : CtAt Tryd.prog ct10 w := itoa_ct ⟨_, Tryd.func10, by kernel_rfl, by kernel_rfl⟩ (fun k h0 h1 => Tryd.strconv_Itoa k h0 h1 w hJ.1)
def E9 : Env := { tt, eqs := [], cts := [ct10] }
theorem ok9 : EnvOk Tryd.prog E9 := ⟨ttOk, by kernel_rfl, rfl, mixOk⟩
theorem cs9 (w0 : World) (hJ : J w0) : EnvCts Tryd.prog E9 w0 := by
  intro c hc
  rcases List.mem_cons.1 hc with rfl | hc
  · exact fun w hb => all10 w (J_below hJ hb)
  cases hc
def ct9 : Ct := { f := 9, ps := [.v false .ro ls3], rs := [(false, ls9)], shared := false, pre := fun (x : Int) => pDec x, F := fun (x : Int) => mDec x }
theorem law9 : ∀ x : Int, pDec x → s_impl_Dec x (fun r => r = mDec x) := fun x h => impl_Dec_ok x h
theorem all9 (w : World) (hJ : J w) : CtAt Tryd.prog ct9 w :=
  ct_by ok9 (cs9 w hJ) Tryd.func9 (by kernel_rfl) (H := (hint [])) law9 (by kernel_rfl)
def E5 : Env := { tt, eqs := [], cts := [ct8, ct9] }
theorem ok5 : EnvOk Tryd.prog E5 := ⟨ttOk, by kernel_rfl, rfl, mixOk⟩
theorem cs5 (w0 : World) (hJ : J w0) : EnvCts Tryd.prog E5 w0 := by
  intro c hc
  rcases List.mem_cons.1 hc with rfl | hc
  · exact fun w hb => all8 w (J_below hJ hb)
  rcases List.mem_cons.1 hc with rfl | hc
  · exact fun w hb => all9 w (J_below hJ hb)
  cases hc
def ct5 : Ct := { f := 5, ps := [.v false .ro ls3], rs := [(false, ls9)], shared := false, pre := fun (x : Int) => pTagOf x, F := fun (x : Int) => mTagOf x }
theorem law5 : ∀ x : Int, pTagOf x → s_impl_TagOf x (fun r => r = mTagOf x) := fun x h => impl_TagOf_ok x h
theorem all5 (w : World) (hJ : J w) : CtAt Tryd.prog ct5 w :=
  ct_by ok5 (cs5 w hJ) Tryd.func5 (by kernel_rfl) (H := (hint [])) law5 (by kernel_rfl)
def E3 : Env := { tt, eqs := [], cts := [ct4, ct5] }
theorem ok3 : EnvOk Tryd.prog E3 := ⟨ttOk, by kernel_rfl, rfl, mixOk⟩
theorem cs3 (w0 : World) (hJ : J w0) : EnvCts Tryd.prog E3 w0 := by
  intro c hc
  rcases List.mem_cons.1 hc with rfl | hc
  · exact fun w hb => all4 w (J_below hJ hb)
  rcases List.mem_cons.1 hc with rfl | hc
  · exact fun w hb => all5 w (J_below hJ hb)
  cases hc
def ct3 : Ct := boolCt 3 [.v false .ro ls3] (fun (x : Int) => p_FnExactTagOf x)
theorem law3 : ∀ x : Int, p_FnExactTagOf x → s_laws_FnExactTagOf x (fun r => r = true) := fun x h => laws_FnExactTagOf_ok x h
theorem all3 (w : World) (hJ : J w) : CtAt Tryd.prog ct3 w :=
  ct_by ok3 (cs3 w hJ) Tryd.func3 (by kernel_rfl) (H := (hint [])) law3 (by kernel_rfl)
end Go.Proofs.YtighffflhhlnaaaDoor.Ap
end
