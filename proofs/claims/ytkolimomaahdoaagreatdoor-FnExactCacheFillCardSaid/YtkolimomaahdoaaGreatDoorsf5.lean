/- A small verified machine for the operations of the given program, and plain laws of what its functions compute; without conditions of its own. Part 6. -/
import Derived.Test.YtkolimomaahdoaaGreatDoorsf4
import Derived.Deep.LoopGhost
import Derived.Tactics
import Derived.Tactics2
import Derived.WalkKit
import Derived.RowKit3
import Derived.WideLaws
import Derived.OwnWalk
import Derived.Laws.Slices
import Derived.Laws.Rows
import Derived.Laws.Cells
import Derived.Laws.IdiomStrings
import Derived.Laws.BytesString
import Derived.Lib.ConvBytes
import Derived.Test.YtkolimomaahdoaaGreatDoorShelfc
import Derived.Shelf.Strings.SlTrimAscii
set_option linter.unusedVariables false
set_option linter.unusedSimpArgs false
section
/- impl.Lower: what its walk needs. -/
set_option linter.unusedVariables false
namespace Go.Ev
open Go Go.RowKit
def LowW (B : Nat) (s : S) (i : Nat) (w w' : World) : Prop :=
  Below B w w' ∧ ∀ j, j < s.size → w'.cell? ⟨B, j, none⟩ = some (.int .u8 (((if j < i then lowB (bs s)[j]! else (bs s)[j]!).toNat : Nat) : Int)) ∧ w'.frozen? ⟨B, j, none⟩ = false
theorem LowW.next {B i : Nat} {s : S} {w w' : World} (h : LowW B s i w w') (hi : i < s.size) {v : Int} (hv : v = ((lowB (bs s)[i]!).toNat : Int)) : LowW B s (i + 1) w (w'.setCell ⟨B, i, none⟩ (.int .u8 v)) := by
  refine ⟨h.1.setCell (Nat.le_refl _) _, fun j hj => ?_⟩
  by_cases e : j = i
  · subst e
    rw [World.cell?_setCell_same _ _ _ (h.2 j hj).1, hv, if_pos (by omega)]
    exact ⟨rfl, by rw [World.frozen?_setCell]; exact (h.2 j hj).2⟩
  · rw [World.cell?_setCell_other _ _ _ _ (by simp [e]), World.frozen?_setCell, (h.2 j hj).1]
    exact ⟨by simp only [show (j < i + 1) ↔ (j < i) by omega], (h.2 j hj).2⟩
theorem LowW.skip {B i : Nat} {s : S} {w w' : World} (h : LowW B s i w w') (hi : i < s.size) (hv : lowB (bs s)[i]! = (bs s)[i]!) : LowW B s (i + 1) w w' := by
  refine ⟨h.1, fun j hj => ?_⟩
  by_cases e : j = i
  · subst e
    have := h.2 j hj
    rw [if_neg (by omega)] at this
    rw [if_pos (by omega), hv]; exact this
  · rw [(h.2 j hj).1]
    exact ⟨by simp only [show (j < i + 1) ↔ (j < i) by omega], (h.2 j hj).2⟩
theorem low_new (P : Program) (src dst e : TypeId) (w : World) (s : S) (hs : P.underlying src = some .string) (hd : P.underlying dst = some (.slice e)) (he : P.underlying e = some (.int .u8)) :
    ∃ W1 cap, (convert src dst (.string s)).run P w = .ok (.slice (some ⟨w.heap.size, 0, none⟩) s.size cap) W1 ∧ LowW w.heap.size s 0 w W1 := by
  refine ⟨_, _, run_bytes_of_string w src dst e s hs hd he, (Below.refl _ _).drew.alloc (Nat.le_refl _) _, fun j hj => ?_⟩
  have h1 := bytesRow_at s (grownCap w s.size 0 e) j hj
  refine ⟨?_, ?_⟩
  · show (w.drew.alloc _).cell? ⟨w.drew.heap.size, j, none⟩ = _
    rw [World.cell?_alloc_mark, h1, if_neg (by omega)]
    have hl : j < (bs s).length := by rw [bs_len]; exact hj
    rw [getElem!_pos (bs s) j hl]; rfl
  · show (w.drew.alloc _).frozen? ⟨w.drew.heap.size, j, none⟩ = _
    rw [World.frozen?_alloc_mark]
    have hsz : s.size ≤ (bytesRow s (grownCap w s.size 0 e)).size := by simp [bytesRow]
    generalize (bytesRow s (grownCap w s.size 0 e)).size = n at hsz
    simp; omega
theorem low_byte (x : UInt8) : (65 ≤ x.toNat ∧ x.toNat ≤ 90 → IntKind.u8.wrap (IntKind.u8.wrap ((x.toNat : Int) + 97) - 65) = ((lowB x).toNat : Int)) ∧ (¬ (65 ≤ x.toNat ∧ x.toNat ≤ 90) → lowB x = x) := by
  refine ⟨fun h => ?_, fun h => by unfold lowB; rw [if_neg h]⟩
  unfold lowB; rw [if_pos h]
  have e : (x + 32).toNat = x.toNat + 32 := by rw [UInt8.toNat_add]; show (x.toNat + 32) % 256 = _; omega
  rw [e]
  have h1 : IntKind.u8.wrap ((x.toNat : Int) + 97) = (x.toNat : Int) + 97 := by rw [IntKind.wrap_u8]; omega
  rw [h1, IntKind.wrap_u8]; omega
theorem low_end (P : Program) (src dst e : TypeId) (B cap : Nat) (w w' : World) (s : S) (hs : P.underlying src = some (.slice e)) (he : P.underlying e = some (.int .u8)) (hd : P.underlying dst = some .string) (h : LowW B s s.size w w') :
    (convert src dst (.slice (some ⟨B, 0, none⟩) s.size cap)).run P w' = .ok (.string (mLower s)) w' := by
  have hl : ((bs s).map lowB).length = s.size := by rw [List.length_map, bs_len]
  have := run_convert_bytes_back (P := P) w' src dst e ⟨B, 0, none⟩ cap ((bs s).map lowB) hs he hd (fun j hj => by
    have hj' : j < s.size := by rw [hl] at hj; exact hj
    have hjb : j < (bs s).length := by rw [bs_len]; exact hj'
    have h1 := (h.2 j hj').1
    rw [if_pos hj', getElem!_pos (bs s) j hjb] at h1
    rw [show (⟨B, 0, none⟩ : Addr).add j = ⟨B, j, none⟩ by unfold Addr.add; split <;> simp_all]
    rw [h1, List.getElem_map])
  rw [hl] at this
  exact this
end Go.Ev
namespace Go.Ev
open Go.RowKit
def lowerCt (f : FuncId) : Ct := { f, ps := [.v false .ro [.str]], rs := [(false, [.str])], shared := false, pre := fun (x : S) => pLower x, F := fun (x : S) => mLower x }
theorem lower_ct {P : Program} {f : FuncId} {w : World} (hf : FnIs P f)
    (hI : ∀ s : ByteArray, s.size ≤ 1073741824 → Calls P f #[.string s] w fun e w' => e = .returned (.string (mLower s)) ∧ Below w.heap.size w w') : CtAt P (lowerCt f) w := by
  refine ct_lib hf fun vals x S hS ha hp => ?_
  obtain ⟨v, vs', hv, h1, h2⟩ := args_v ha
  have h2 := args_e h2
  subst h2
  have h1 : v = .string x := h1
  subst h1
  rw [arr_of hv]
  exact (hI x hp).mono fun e w' ⟨he, hb⟩ => ⟨[.string (mLower x)], _, he, hb, Or.inl rfl, fun S' => res_str _⟩
end Go.Ev
end

section
set_option linter.unusedVariables false
namespace Go.Proofs.YtkolimomaahdoaaGreatDoor.Ap
open Go Go.Ev Go.Proofs Go.RowKit
abbrev ls3 : List L := [.int .i64]
abbrev ls4 : List L := [.bool]
abbrev ls5 : List L := [.int .u8]
abbrev ls9 : List L := [.str]
abbrev ls22 : List L := [.list 150 [.str, .list 159 [.str, .str], .int .i64, .list 159 [.str, .str], .str, .int .i64, .int .i64, .bool]]
abbrev ls24 : List L := [.int .i64, .int .i64, .list 150 [.str, .list 159 [.str, .str], .int .i64, .list 159 [.str, .str], .str, .int .i64, .int .i64, .bool], .int .i64]
abbrev ls26 : List L := [.list 95 [.str, .list 140 [.str, .str], .int .i64, .list 140 [.str, .str], .str, .int .i64, .int .i64, .bool]]
abbrev ls28 : List L := [.int .i64, .int .i64, .list 95 [.str, .list 140 [.str, .str], .int .i64, .list 140 [.str, .str], .str, .int .i64, .int .i64, .bool], .int .i64]
abbrev ls35 : List L := [.list 159 [.str, .str]]
abbrev ls37 : List L := [.int .i64, .list 159 [.str, .str], .str]
abbrev ls39 : List L := [.str, .list 159 [.str, .str], .int .i64, .list 159 [.str, .str], .str, .int .i64, .int .i64]
abbrev ls42 : List L := [.list 140 [.str, .str]]
abbrev ls44 : List L := [.int .i64, .list 140 [.str, .str], .str]
abbrev ls46 : List L := [.str, .list 140 [.str, .str], .int .i64, .list 140 [.str, .str], .str, .int .i64, .int .i64]
abbrev ls51 : List L := [.list 24 [.int .i64, .int .i64, .list 150 [.str, .list 159 [.str, .str], .int .i64, .list 159 [.str, .str], .str, .int .i64, .int .i64, .bool], .int .i64]]
abbrev ls52 : List L := [.list 166 [.str, .int .i64]]
abbrev ls54 : List L := [.list 24 [.int .i64, .int .i64, .list 150 [.str, .list 159 [.str, .str], .int .i64, .list 159 [.str, .str], .str, .int .i64, .int .i64, .bool], .int .i64], .list 166 [.str, .int .i64]]
abbrev ls56 : List L := [.list 28 [.int .i64, .int .i64, .list 95 [.str, .list 140 [.str, .str], .int .i64, .list 140 [.str, .str], .str, .int .i64, .int .i64, .bool], .int .i64]]
abbrev ls57 : List L := [.list 127 [.str, .int .i64]]
abbrev ls59 : List L := [.list 28 [.int .i64, .int .i64, .list 95 [.str, .list 140 [.str, .str], .int .i64, .list 140 [.str, .str], .str, .int .i64, .int .i64, .bool], .int .i64], .list 127 [.str, .int .i64]]
abbrev ls95 : List L := [.str, .list 140 [.str, .str], .int .i64, .list 140 [.str, .str], .str, .int .i64, .int .i64, .bool]
abbrev ls127 : List L := [.str, .int .i64]
abbrev ls140 : List L := [.str, .str]
abbrev ls150 : List L := [.str, .list 159 [.str, .str], .int .i64, .list 159 [.str, .str], .str, .int .i64, .int .i64, .bool]
abbrev ls159 : List L := [.str, .str]
abbrev ls166 : List L := [.str, .int .i64]
def tt : List (Nat × TI) := [
 (2, ⟨.sc, [.int .i64]⟩),
 (3, ⟨.sc, [.int .i64]⟩),
 (4, ⟨.sc, [.bool]⟩),
 (5, ⟨.sc, [.int .u8]⟩),
 (6, ⟨.sc, [.int .u8]⟩),
 (7, ⟨.st [(0, [.int .i64]), (1, [.int .i64]), (2, [.bool]), (3, [.int .u8])], [.int .i64, .int .i64, .bool, .int .u8]⟩),
 (8, ⟨.st [(0, [.int .i64]), (1, [.int .i64]), (2, [.bool]), (3, [.int .u8])], [.int .i64, .int .i64, .bool, .int .u8]⟩),
 (9, ⟨.sc, [.str]⟩),
 (10, ⟨.sc, [.str]⟩),
 (11, ⟨.sc, [.str]⟩),
 (12, ⟨.sc, [.int .u64]⟩),
 (13, ⟨.st [(0, [.str]), (1, [.int .u64])], [.str, .int .u64]⟩),
 (14, ⟨.st [(0, [.str]), (1, [.int .u64])], [.str, .int .u64]⟩),
 (21, ⟨.sc, [.int .i32]⟩),
 (22, ⟨.sl 150 [.str, .list 159 [.str, .str], .int .i64, .list 159 [.str, .str], .str, .int .i64, .int .i64, .bool] 112, [.list 150 [.str, .list 159 [.str, .str], .int .i64, .list 159 [.str, .str], .str, .int .i64, .int .i64, .bool]]⟩),
 (23, ⟨.st [(0, [.int .i64]), (1, [.int .i64]), (2, [.list 150 [.str, .list 159 [.str, .str], .int .i64, .list 159 [.str, .str], .str, .int .i64, .int .i64, .bool]]), (3, [.int .i64])], [.int .i64, .int .i64, .list 150 [.str, .list 159 [.str, .str], .int .i64, .list 159 [.str, .str], .str, .int .i64, .int .i64, .bool], .int .i64]⟩),
 (24, ⟨.st [(0, [.int .i64]), (1, [.int .i64]), (2, [.list 150 [.str, .list 159 [.str, .str], .int .i64, .list 159 [.str, .str], .str, .int .i64, .int .i64, .bool]]), (3, [.int .i64])], [.int .i64, .int .i64, .list 150 [.str, .list 159 [.str, .str], .int .i64, .list 159 [.str, .str], .str, .int .i64, .int .i64, .bool], .int .i64]⟩),
 (26, ⟨.sl 95 [.str, .list 140 [.str, .str], .int .i64, .list 140 [.str, .str], .str, .int .i64, .int .i64, .bool] 112, [.list 95 [.str, .list 140 [.str, .str], .int .i64, .list 140 [.str, .str], .str, .int .i64, .int .i64, .bool]]⟩),
 (27, ⟨.st [(0, [.int .i64]), (1, [.int .i64]), (2, [.list 95 [.str, .list 140 [.str, .str], .int .i64, .list 140 [.str, .str], .str, .int .i64, .int .i64, .bool]]), (3, [.int .i64])], [.int .i64, .int .i64, .list 95 [.str, .list 140 [.str, .str], .int .i64, .list 140 [.str, .str], .str, .int .i64, .int .i64, .bool], .int .i64]⟩),
 (28, ⟨.st [(0, [.int .i64]), (1, [.int .i64]), (2, [.list 95 [.str, .list 140 [.str, .str], .int .i64, .list 140 [.str, .str], .str, .int .i64, .int .i64, .bool]]), (3, [.int .i64])], [.int .i64, .int .i64, .list 95 [.str, .list 140 [.str, .str], .int .i64, .list 140 [.str, .str], .str, .int .i64, .int .i64, .bool], .int .i64]⟩),
 (35, ⟨.sl 159 [.str, .str] 32, [.list 159 [.str, .str]]⟩),
 (36, ⟨.st [(0, [.int .i64]), (1, [.list 159 [.str, .str]]), (2, [.str])], [.int .i64, .list 159 [.str, .str], .str]⟩),
 (37, ⟨.st [(0, [.int .i64]), (1, [.list 159 [.str, .str]]), (2, [.str])], [.int .i64, .list 159 [.str, .str], .str]⟩),
 (38, ⟨.st [(0, [.str]), (1, [.list 159 [.str, .str]]), (2, [.int .i64, .list 159 [.str, .str], .str]), (5, [.int .i64]), (6, [.int .i64])], [.str, .list 159 [.str, .str], .int .i64, .list 159 [.str, .str], .str, .int .i64, .int .i64]⟩),
 (39, ⟨.st [(0, [.str]), (1, [.list 159 [.str, .str]]), (2, [.int .i64, .list 159 [.str, .str], .str]), (5, [.int .i64]), (6, [.int .i64])], [.str, .list 159 [.str, .str], .int .i64, .list 159 [.str, .str], .str, .int .i64, .int .i64]⟩),
 (42, ⟨.sl 140 [.str, .str] 32, [.list 140 [.str, .str]]⟩),
 (43, ⟨.st [(0, [.int .i64]), (1, [.list 140 [.str, .str]]), (2, [.str])], [.int .i64, .list 140 [.str, .str], .str]⟩),
 (44, ⟨.st [(0, [.int .i64]), (1, [.list 140 [.str, .str]]), (2, [.str])], [.int .i64, .list 140 [.str, .str], .str]⟩),
 (45, ⟨.st [(0, [.str]), (1, [.list 140 [.str, .str]]), (2, [.int .i64, .list 140 [.str, .str], .str]), (5, [.int .i64]), (6, [.int .i64])], [.str, .list 140 [.str, .str], .int .i64, .list 140 [.str, .str], .str, .int .i64, .int .i64]⟩),
 (46, ⟨.st [(0, [.str]), (1, [.list 140 [.str, .str]]), (2, [.int .i64, .list 140 [.str, .str], .str]), (5, [.int .i64]), (6, [.int .i64])], [.str, .list 140 [.str, .str], .int .i64, .list 140 [.str, .str], .str, .int .i64, .int .i64]⟩),
 (51, ⟨.sl 24 [.int .i64, .int .i64, .list 150 [.str, .list 159 [.str, .str], .int .i64, .list 159 [.str, .str], .str, .int .i64, .int .i64, .bool], .int .i64] 48, [.list 24 [.int .i64, .int .i64, .list 150 [.str, .list 159 [.str, .str], .int .i64, .list 159 [.str, .str], .str, .int .i64, .int .i64, .bool], .int .i64]]⟩),
 (52, ⟨.sl 166 [.str, .int .i64] 24, [.list 166 [.str, .int .i64]]⟩),
 (53, ⟨.st [(0, [.list 24 [.int .i64, .int .i64, .list 150 [.str, .list 159 [.str, .str], .int .i64, .list 159 [.str, .str], .str, .int .i64, .int .i64, .bool], .int .i64]]), (1, [.list 166 [.str, .int .i64]])], [.list 24 [.int .i64, .int .i64, .list 150 [.str, .list 159 [.str, .str], .int .i64, .list 159 [.str, .str], .str, .int .i64, .int .i64, .bool], .int .i64], .list 166 [.str, .int .i64]]⟩),
 (54, ⟨.st [(0, [.list 24 [.int .i64, .int .i64, .list 150 [.str, .list 159 [.str, .str], .int .i64, .list 159 [.str, .str], .str, .int .i64, .int .i64, .bool], .int .i64]]), (1, [.list 166 [.str, .int .i64]])], [.list 24 [.int .i64, .int .i64, .list 150 [.str, .list 159 [.str, .str], .int .i64, .list 159 [.str, .str], .str, .int .i64, .int .i64, .bool], .int .i64], .list 166 [.str, .int .i64]]⟩),
 (56, ⟨.sl 28 [.int .i64, .int .i64, .list 95 [.str, .list 140 [.str, .str], .int .i64, .list 140 [.str, .str], .str, .int .i64, .int .i64, .bool], .int .i64] 48, [.list 28 [.int .i64, .int .i64, .list 95 [.str, .list 140 [.str, .str], .int .i64, .list 140 [.str, .str], .str, .int .i64, .int .i64, .bool], .int .i64]]⟩),
 (57, ⟨.sl 127 [.str, .int .i64] 24, [.list 127 [.str, .int .i64]]⟩),
 (58, ⟨.st [(0, [.list 28 [.int .i64, .int .i64, .list 95 [.str, .list 140 [.str, .str], .int .i64, .list 140 [.str, .str], .str, .int .i64, .int .i64, .bool], .int .i64]]), (1, [.list 127 [.str, .int .i64]])], [.list 28 [.int .i64, .int .i64, .list 95 [.str, .list 140 [.str, .str], .int .i64, .list 140 [.str, .str], .str, .int .i64, .int .i64, .bool], .int .i64], .list 127 [.str, .int .i64]]⟩),
 (59, ⟨.st [(0, [.list 28 [.int .i64, .int .i64, .list 95 [.str, .list 140 [.str, .str], .int .i64, .list 140 [.str, .str], .str, .int .i64, .int .i64, .bool], .int .i64]]), (1, [.list 127 [.str, .int .i64]])], [.list 28 [.int .i64, .int .i64, .list 95 [.str, .list 140 [.str, .str], .int .i64, .list 140 [.str, .str], .str, .int .i64, .int .i64, .bool], .int .i64], .list 127 [.str, .int .i64]]⟩),
 (68, ⟨.sl 175 [.str, .str, .int .i64, .int .i64, .bool, .bool, .list 159 [.str, .str]] 80, [.list 175 [.str, .str, .int .i64, .int .i64, .bool, .bool, .list 159 [.str, .str]]]⟩),
 (69, ⟨.st [(0, [.list 175 [.str, .str, .int .i64, .int .i64, .bool, .bool, .list 159 [.str, .str]]])], [.list 175 [.str, .str, .int .i64, .int .i64, .bool, .bool, .list 159 [.str, .str]]]⟩),
 (70, ⟨.st [(0, [.list 175 [.str, .str, .int .i64, .int .i64, .bool, .bool, .list 159 [.str, .str]]])], [.list 175 [.str, .str, .int .i64, .int .i64, .bool, .bool, .list 159 [.str, .str]]]⟩),
 (71, ⟨.st [(0, [.str]), (1, [.str]), (2, [.list 159 [.str, .str]]), (3, [.str])], [.str, .str, .list 159 [.str, .str], .str]⟩),
 (72, ⟨.st [(0, [.str]), (1, [.str]), (2, [.list 159 [.str, .str]]), (3, [.str])], [.str, .str, .list 159 [.str, .str], .str]⟩),
 (75, ⟨.sl 137 [.str, .str, .int .i64, .int .i64, .bool, .bool, .list 140 [.str, .str]] 80, [.list 137 [.str, .str, .int .i64, .int .i64, .bool, .bool, .list 140 [.str, .str]]]⟩),
 (76, ⟨.st [(0, [.list 137 [.str, .str, .int .i64, .int .i64, .bool, .bool, .list 140 [.str, .str]]])], [.list 137 [.str, .str, .int .i64, .int .i64, .bool, .bool, .list 140 [.str, .str]]]⟩),
 (77, ⟨.st [(0, [.list 137 [.str, .str, .int .i64, .int .i64, .bool, .bool, .list 140 [.str, .str]]])], [.list 137 [.str, .str, .int .i64, .int .i64, .bool, .bool, .list 140 [.str, .str]]]⟩),
 (81, ⟨.st [(0, [.str]), (1, [.str]), (2, [.list 140 [.str, .str]]), (3, [.str])], [.str, .str, .list 140 [.str, .str], .str]⟩),
 (82, ⟨.st [(0, [.str]), (1, [.str]), (2, [.list 140 [.str, .str]]), (3, [.str])], [.str, .str, .list 140 [.str, .str], .str]⟩),
 (94, ⟨.st [(0, [.str, .list 140 [.str, .str], .int .i64, .list 140 [.str, .str], .str, .int .i64, .int .i64]), (7, [.bool])], [.str, .list 140 [.str, .str], .int .i64, .list 140 [.str, .str], .str, .int .i64, .int .i64, .bool]⟩),
 (95, ⟨.st [(0, [.str, .list 140 [.str, .str], .int .i64, .list 140 [.str, .str], .str, .int .i64, .int .i64]), (7, [.bool])], [.str, .list 140 [.str, .str], .int .i64, .list 140 [.str, .str], .str, .int .i64, .int .i64, .bool]⟩),
 (126, ⟨.st [(0, [.str]), (1, [.int .i64])], [.str, .int .i64]⟩),
 (127, ⟨.st [(0, [.str]), (1, [.int .i64])], [.str, .int .i64]⟩),
 (136, ⟨.st [(0, [.str]), (1, [.str]), (2, [.int .i64]), (3, [.int .i64]), (4, [.bool]), (5, [.bool]), (6, [.list 140 [.str, .str]])], [.str, .str, .int .i64, .int .i64, .bool, .bool, .list 140 [.str, .str]]⟩),
 (137, ⟨.st [(0, [.str]), (1, [.str]), (2, [.int .i64]), (3, [.int .i64]), (4, [.bool]), (5, [.bool]), (6, [.list 140 [.str, .str]])], [.str, .str, .int .i64, .int .i64, .bool, .bool, .list 140 [.str, .str]]⟩),
 (139, ⟨.st [(0, [.str]), (1, [.str])], [.str, .str]⟩),
 (140, ⟨.st [(0, [.str]), (1, [.str])], [.str, .str]⟩),
 (149, ⟨.st [(0, [.str, .list 159 [.str, .str], .int .i64, .list 159 [.str, .str], .str, .int .i64, .int .i64]), (7, [.bool])], [.str, .list 159 [.str, .str], .int .i64, .list 159 [.str, .str], .str, .int .i64, .int .i64, .bool]⟩),
 (150, ⟨.st [(0, [.str, .list 159 [.str, .str], .int .i64, .list 159 [.str, .str], .str, .int .i64, .int .i64]), (7, [.bool])], [.str, .list 159 [.str, .str], .int .i64, .list 159 [.str, .str], .str, .int .i64, .int .i64, .bool]⟩),
 (159, ⟨.st [(0, [.str]), (1, [.str])], [.str, .str]⟩),
 (166, ⟨.st [(0, [.str]), (1, [.int .i64])], [.str, .int .i64]⟩),
 (171, ⟨.sc, [.int .u64]⟩),
 (174, ⟨.st [(0, [.str]), (1, [.str]), (2, [.int .i64]), (3, [.int .i64]), (4, [.bool]), (5, [.bool]), (6, [.list 159 [.str, .str]])], [.str, .str, .int .i64, .int .i64, .bool, .bool, .list 159 [.str, .str]]⟩),
 (175, ⟨.st [(0, [.str]), (1, [.str]), (2, [.int .i64]), (3, [.int .i64]), (4, [.bool]), (5, [.bool]), (6, [.list 159 [.str, .str]])], [.str, .str, .int .i64, .int .i64, .bool, .bool, .list 159 [.str, .str]]⟩),
 (178, ⟨.sl 9 [.str] 16, [.list 9 [.str]]⟩),
 (187, ⟨.sl 5 [.int .u8] 1, [.list 5 [.int .u8]]⟩),
 (191, ⟨.sl 3 [.int .i64] 8, [.list 3 [.int .i64]]⟩),
 (226, ⟨.sc, [.int .u64]⟩),
 (243, ⟨.sc, [.int .u32]⟩),
 (256, ⟨.sc, [.int .i64]⟩),
 (265, ⟨.st [(0, [.int .u8]), (1, [.int .u8])], [.int .u8, .int .u8]⟩),
 (266, ⟨.st [(0, [.int .u8]), (1, [.int .u8])], [.int .u8, .int .u8]⟩),
 (278, ⟨.st [(0, [.str])], [.str]⟩),
 (279, ⟨.st [(0, [.str])], [.str]⟩),
 (286, ⟨.sc, [.int .u8]⟩),
 (287, ⟨.sc, [.int .u8]⟩),
 (289, ⟨.sc, [.int .i32]⟩),
 (290, ⟨.sc, [.int .i32]⟩)]
theorem ttOk : ttB Tryz.prog tt = true := by kernel_rfl
theorem mixOk : Tryz.prog.follows .mixedOrders = true := by kernel_rfl
def J (_ : World) : Prop := True
theorem J_below {w w' : World} (h : J w) (_ : Below w.heap.size w w') : J w' := trivial
def Jn (n : Nat) (w : World) : Prop := ∃ w0 : World, w0.heap.size = n ∧ J w0 ∧ Below n w0 w
theorem Jn_J {n : Nat} {w : World} (h : Jn n w) : J w := by
  obtain ⟨w0, rfl, h1, h2⟩ := h
  exact J_below h1 h2
theorem Jn_below {n : Nat} {w w' : World} (h : Jn n w) (hb : Below n w w') : Jn n w' := by
  obtain ⟨w0, h0, h1, h2⟩ := h
  exact ⟨w0, h0, h1, h2.trans hb⟩
theorem Jn_of {w w' : World} (h : J w) (hb : Below w.heap.size w w') : Jn w.heap.size w' := ⟨w, rfl, h, hb⟩
noncomputable def E126 : Env := { tt, eqs := [], cts := [] }
theorem ok126 : EnvOk Tryz.prog E126 := ⟨ttOk, by kernel_rfl, rfl, mixOk⟩
theorem cs126 (w0 : World) (hJ : J w0) : EnvCts Tryz.prog E126 w0 w0.heap.size := by
  refine ⟨fun c hc => ?_, fun c hc => ?_⟩
  · cases hc
  · cases hc
noncomputable def ct126 : Ct := { f := 126, ps := [.v true .ro ls159, .v false .ro [.int .i64]], rs := [(false, [.int .i64])], shared := false, pre := fun (q : Fld × Int) => pSz q.1 q.2, F := fun (q : Fld × Int) => szF q.1 q.2 }
def st126 : List (SzStep Fld) := [.str (fun x : Fld => x.1), .str (fun x : Fld => x.2)]
theorem c126 (x : Fld) : szSum x st126 = cz x := by
  simp only [szSum, st126, cz_pair, cz_int, cz_bool, cz_str]
  all_goals omega
theorem w126 (x : Fld) (h : wd x) : szFine x st126 := by
  first | simp only [wd_pair] at h | skip
  simp only [szFine, st126, wd_pair, wf_wd]
  simp only [h, and_self]
theorem law126 : ∀ q : Fld × Int, pSz q.1 q.2 → szSt q.1 st126 q.2 (fun r => r = szF q.1 q.2) := fun q hq => szSt_holds q.1 st126 q.2 _ (w126 q.1 hq.1) hq.2.1 hq.2.2 (c126 q.1)
theorem all126 (w : World) (hJ : J w) : CtAt Tryz.prog ct126 w :=
  ct_by ok126 (cs126 w hJ) Tryz.func126 (by kernel_rfl) (H := (hint [])) law126 (by kernel_rfl)
noncomputable def E56 : Env := { tt, eqs := [], cts := [ct126] }
theorem ok56 : EnvOk Tryz.prog E56 := ⟨ttOk, by kernel_rfl, rfl, mixOk⟩
theorem cs56 (w0 : World) (hJ : J w0) : EnvCts Tryz.prog E56 w0 w0.heap.size := by
  refine ⟨fun c hc => ?_, fun c hc => ?_⟩
  · rcases List.mem_cons.1 hc with rfl | hc
    · exact fun w hb => all126 w (J_below hJ hb)
    cases hc
  · cases hc
noncomputable def ct56 : Ct := { f := 56, ps := [.v false .ro ls35, .v false .ro [.int .i64]], rs := [(false, [.int .i64])], shared := false, pre := fun (q : (List Fld) × Int) => pSz q.1 q.2, F := fun (q : (List Fld) × Int) => szF q.1 q.2 }
theorem law56 : ∀ q : (List Fld) × Int, pSz q.1 q.2 → szS (α := Fld) Dft.dft (fun y k => pSz y k) (fun y k => szF y k) q.1 q.2 (fun r => r = szF q.1 q.2) := fun q hq => szS_holds (α := Fld) Dft.dft cz wd q.1 q.2 hq.1.1 hq.1.2 hq.2.1 hq.2.2
theorem all56 (w : World) (hJ : J w) : CtAt Tryz.prog ct56 w :=
  ct_by ok56 (cs56 w hJ) Tryz.func56 (by kernel_rfl) (H := (hint [(5, [.val 1 (.int .i64), .val 5 (.int .i64)])])) law56 (by kernel_rfl)
noncomputable def E57 : Env := { tt, eqs := [], cts := [ct56] }
theorem ok57 : EnvOk Tryz.prog E57 := ⟨ttOk, by kernel_rfl, rfl, mixOk⟩
theorem cs57 (w0 : World) (hJ : J w0) : EnvCts Tryz.prog E57 w0 w0.heap.size := by
  refine ⟨fun c hc => ?_, fun c hc => ?_⟩
  · rcases List.mem_cons.1 hc with rfl | hc
    · exact fun w hb => all56 w (J_below hJ hb)
    cases hc
  · cases hc
noncomputable def ct57 : Ct := { f := 57, ps := [.v true .ro ls37, .v false .ro [.int .i64]], rs := [(false, [.int .i64])], shared := false, pre := fun (q : Rsp × Int) => pSz q.1 q.2, F := fun (q : Rsp × Int) => szF q.1 q.2 }
def st57 : List (SzStep Rsp) := [.call (fun x : Rsp => wd (x.2.1 : (List Fld))) (fun x : Rsp => cz (x.2.1 : (List Fld))), .str (fun x : Rsp => x.2.2)]
theorem c57 (x : Rsp) : szSum x st57 = cz x := by
  simp only [szSum, st57, cz_pair, cz_int, cz_bool, cz_str]
  all_goals omega
theorem w57 (x : Rsp) (h : wd x) : szFine x st57 := by
  first | simp only [wd_pair] at h | skip
  simp only [szFine, st57, wd_pair, wf_wd]
  simp only [h, and_self]
theorem law57 : ∀ q : Rsp × Int, pSz q.1 q.2 → szSt q.1 st57 q.2 (fun r => r = szF q.1 q.2) := fun q hq => szSt_holds q.1 st57 q.2 _ (w57 q.1 hq.1) hq.2.1 hq.2.2 (c57 q.1)
theorem all57 (w : World) (hJ : J w) : CtAt Tryz.prog ct57 w :=
  ct_by ok57 (cs57 w hJ) Tryz.func57 (by kernel_rfl) (H := (hint [])) law57 (by kernel_rfl)
noncomputable def E15 : Env := { tt, eqs := [], cts := [ct56, ct57] }
theorem ok15 : EnvOk Tryz.prog E15 := ⟨ttOk, by kernel_rfl, rfl, mixOk⟩
theorem cs15 (w0 : World) (hJ : J w0) : EnvCts Tryz.prog E15 w0 w0.heap.size := by
  refine ⟨fun c hc => ?_, fun c hc => ?_⟩
  · rcases List.mem_cons.1 hc with rfl | hc
    · exact fun w hb => all56 w (J_below hJ hb)
    rcases List.mem_cons.1 hc with rfl | hc
    · exact fun w hb => all57 w (J_below hJ hb)
    cases hc
  · cases hc
noncomputable def ct15 : Ct := { f := 15, ps := [.v true .ro ls39, .v false .ro [.int .i64]], rs := [(false, [.int .i64])], shared := false, pre := fun (q : Sto × Int) => pSz q.1 q.2, F := fun (q : Sto × Int) => szF q.1 q.2 }
def st15 : List (SzStep Sto) := [.str (fun x : Sto => x.1), .call (fun x : Sto => wd (x.2.1 : (List Fld))) (fun x : Sto => cz (x.2.1 : (List Fld))), .call (fun x : Sto => wd ((x.2.2.1, x.2.2.2.1, x.2.2.2.2.1) : Rsp)) (fun x : Sto => cz ((x.2.2.1, x.2.2.2.1, x.2.2.2.2.1) : Rsp))]
theorem c15 (x : Sto) : szSum x st15 = cz x := by
  simp only [szSum, st15, cz_pair, cz_int, cz_bool, cz_str]
  all_goals omega
theorem w15 (x : Sto) (h : wd x) : szFine x st15 := by
  first | simp only [wd_pair] at h | skip
  simp only [szFine, st15, wd_pair, wf_wd]
  simp only [h, and_self]
theorem law15 : ∀ q : Sto × Int, pSz q.1 q.2 → szSt q.1 st15 q.2 (fun r => r = szF q.1 q.2) := fun q hq => szSt_holds q.1 st15 q.2 _ (w15 q.1 hq.1) hq.2.1 hq.2.2 (c15 q.1)
theorem all15 (w : World) (hJ : J w) : CtAt Tryz.prog ct15 w :=
  ct_by ok15 (cs15 w hJ) Tryz.func15 (by kernel_rfl) (H := (hint [])) law15 (by kernel_rfl)
noncomputable def E118 : Env := { tt, eqs := [], cts := [ct15] }
theorem ok118 : EnvOk Tryz.prog E118 := ⟨ttOk, by kernel_rfl, rfl, mixOk⟩
theorem cs118 (w0 : World) (hJ : J w0) : EnvCts Tryz.prog E118 w0 w0.heap.size := by
  refine ⟨fun c hc => ?_, fun c hc => ?_⟩
  · rcases List.mem_cons.1 hc with rfl | hc
    · exact fun w hb => all15 w (J_below hJ hb)
    cases hc
  · cases hc
noncomputable def ct118 : Ct := { f := 118, ps := [.v true .ro ls150, .v false .ro [.int .i64]], rs := [(false, [.int .i64])], shared := false, pre := fun (q : Slt × Int) => pSz q.1 q.2, F := fun (q : Slt × Int) => szF q.1 q.2 }
def st118 : List (SzStep Slt) := [.call (fun x : Slt => wd ((x.1, x.2.1, x.2.2.1, x.2.2.2.1, x.2.2.2.2.1, x.2.2.2.2.2.1, x.2.2.2.2.2.2.1) : Sto)) (fun x : Slt => cz ((x.1, x.2.1, x.2.2.1, x.2.2.2.1, x.2.2.2.2.1, x.2.2.2.2.2.1, x.2.2.2.2.2.2.1) : Sto))]
theorem c118 (x : Slt) : szSum x st118 = cz x := by
  simp only [szSum, st118, cz_pair, cz_int, cz_bool, cz_str]
  all_goals omega
theorem w118 (x : Slt) (h : wd x) : szFine x st118 := by
  first | simp only [wd_pair] at h | skip
  simp only [szFine, st118, wd_pair, wf_wd]
  simp only [h, and_self]
theorem law118 : ∀ q : Slt × Int, pSz q.1 q.2 → szSt q.1 st118 q.2 (fun r => r = szF q.1 q.2) := fun q hq => szSt_holds q.1 st118 q.2 _ (w118 q.1 hq.1) hq.2.1 hq.2.2 (c118 q.1)
theorem all118 (w : World) (hJ : J w) : CtAt Tryz.prog ct118 w :=
  ct_by ok118 (cs118 w hJ) Tryz.func118 (by kernel_rfl) (H := (hint [])) law118 (by kernel_rfl)
noncomputable def E44 : Env := { tt, eqs := [], cts := [ct118] }
theorem ok44 : EnvOk Tryz.prog E44 := ⟨ttOk, by kernel_rfl, rfl, mixOk⟩
theorem cs44 (w0 : World) (hJ : J w0) : EnvCts Tryz.prog E44 w0 w0.heap.size := by
  refine ⟨fun c hc => ?_, fun c hc => ?_⟩
  · rcases List.mem_cons.1 hc with rfl | hc
    · exact fun w hb => all118 w (J_below hJ hb)
    cases hc
  · cases hc
noncomputable def ct44 : Ct := { f := 44, ps := [.v false .ro ls22, .v false .ro [.int .i64]], rs := [(false, [.int .i64])], shared := false, pre := fun (q : (List Slt) × Int) => pSz q.1 q.2, F := fun (q : (List Slt) × Int) => szF q.1 q.2 }
theorem law44 : ∀ q : (List Slt) × Int, pSz q.1 q.2 → szS (α := Slt) Dft.dft (fun y k => pSz y k) (fun y k => szF y k) q.1 q.2 (fun r => r = szF q.1 q.2) := fun q hq => szS_holds (α := Slt) Dft.dft cz wd q.1 q.2 hq.1.1 hq.1.2 hq.2.1 hq.2.2
theorem all44 (w : World) (hJ : J w) : CtAt Tryz.prog ct44 w :=
  ct_by ok44 (cs44 w hJ) Tryz.func44 (by kernel_rfl) (H := (hint [(5, [.val 1 (.int .i64), .val 5 (.int .i64)])])) law44 (by kernel_rfl)
noncomputable def E8 : Env := { tt, eqs := [], cts := [ct44] }
theorem ok8 : EnvOk Tryz.prog E8 := ⟨ttOk, by kernel_rfl, rfl, mixOk⟩
theorem cs8 (w0 : World) (hJ : J w0) : EnvCts Tryz.prog E8 w0 w0.heap.size := by
  refine ⟨fun c hc => ?_, fun c hc => ?_⟩
  · rcases List.mem_cons.1 hc with rfl | hc
    · exact fun w hb => all44 w (J_below hJ hb)
    cases hc
  · cases hc
noncomputable def ct8 : Ct := { f := 8, ps := [.v true .ro ls24, .v false .ro [.int .i64]], rs := [(false, [.int .i64])], shared := false, pre := fun (q : Shd × Int) => pSz q.1 q.2, F := fun (q : Shd × Int) => szF q.1 q.2 }
def st8 : List (SzStep Shd) := [.call (fun x : Shd => wd (x.2.2.1 : (List Slt))) (fun x : Shd => cz (x.2.2.1 : (List Slt)))]
theorem c8 (x : Shd) : szSum x st8 = cz x := by
  simp only [szSum, st8, cz_pair, cz_int, cz_bool, cz_str]
  all_goals omega
theorem w8 (x : Shd) (h : wd x) : szFine x st8 := by
  first | simp only [wd_pair] at h | skip
  simp only [szFine, st8, wd_pair, wf_wd]
  simp only [h, and_self]
theorem law8 : ∀ q : Shd × Int, pSz q.1 q.2 → szSt q.1 st8 q.2 (fun r => r = szF q.1 q.2) := fun q hq => szSt_holds q.1 st8 q.2 _ (w8 q.1 hq.1) hq.2.1 hq.2.2 (c8 q.1)
theorem all8 (w : World) (hJ : J w) : CtAt Tryz.prog ct8 w :=
  ct_by ok8 (cs8 w hJ) Tryz.func8 (by kernel_rfl) (H := (hint [])) law8 (by kernel_rfl)
noncomputable def E73 : Env := { tt, eqs := [], cts := [ct8] }
theorem ok73 : EnvOk Tryz.prog E73 := ⟨ttOk, by kernel_rfl, rfl, mixOk⟩
theorem cs73 (w0 : World) (hJ : J w0) : EnvCts Tryz.prog E73 w0 w0.heap.size := by
  refine ⟨fun c hc => ?_, fun c hc => ?_⟩
  · rcases List.mem_cons.1 hc with rfl | hc
    · exact fun w hb => all8 w (J_below hJ hb)
    cases hc
  · cases hc
noncomputable def ct73 : Ct := { f := 73, ps := [.v false .ro ls51, .v false .ro [.int .i64]], rs := [(false, [.int .i64])], shared := false, pre := fun (q : (List Shd) × Int) => pSz q.1 q.2, F := fun (q : (List Shd) × Int) => szF q.1 q.2 }
theorem law73 : ∀ q : (List Shd) × Int, pSz q.1 q.2 → szS (α := Shd) Dft.dft (fun y k => pSz y k) (fun y k => szF y k) q.1 q.2 (fun r => r = szF q.1 q.2) := fun q hq => szS_holds (α := Shd) Dft.dft cz wd q.1 q.2 hq.1.1 hq.1.2 hq.2.1 hq.2.2
theorem all73 (w : World) (hJ : J w) : CtAt Tryz.prog ct73 w :=
  ct_by ok73 (cs73 w hJ) Tryz.func73 (by kernel_rfl) (H := (hint [(5, [.val 1 (.int .i64), .val 5 (.int .i64)])])) law73 (by kernel_rfl)
noncomputable def E136 : Env := { tt, eqs := [], cts := [] }
theorem ok136 : EnvOk Tryz.prog E136 := ⟨ttOk, by kernel_rfl, rfl, mixOk⟩
theorem cs136 (w0 : World) (hJ : J w0) : EnvCts Tryz.prog E136 w0 w0.heap.size := by
  refine ⟨fun c hc => ?_, fun c hc => ?_⟩
  · cases hc
  · cases hc
noncomputable def ct136 : Ct := { f := 136, ps := [.v true .ro ls166, .v false .ro [.int .i64]], rs := [(false, [.int .i64])], shared := false, pre := fun (q : Gen × Int) => pSz q.1 q.2, F := fun (q : Gen × Int) => szF q.1 q.2 }
def st136 : List (SzStep Gen) := [.str (fun x : Gen => x.1)]
theorem c136 (x : Gen) : szSum x st136 = cz x := by
  simp only [szSum, st136, cz_pair, cz_int, cz_bool, cz_str]
  all_goals omega
theorem w136 (x : Gen) (h : wd x) : szFine x st136 := by
  first | simp only [wd_pair] at h | skip
  simp only [szFine, st136, wd_pair, wf_wd]
  simp only [h, and_self]
theorem law136 : ∀ q : Gen × Int, pSz q.1 q.2 → szSt q.1 st136 q.2 (fun r => r = szF q.1 q.2) := fun q hq => szSt_holds q.1 st136 q.2 _ (w136 q.1 hq.1) hq.2.1 hq.2.2 (c136 q.1)
theorem all136 (w : World) (hJ : J w) : CtAt Tryz.prog ct136 w :=
  ct_by ok136 (cs136 w hJ) Tryz.func136 (by kernel_rfl) (H := (hint [])) law136 (by kernel_rfl)
noncomputable def E74 : Env := { tt, eqs := [], cts := [ct136] }
theorem ok74 : EnvOk Tryz.prog E74 := ⟨ttOk, by kernel_rfl, rfl, mixOk⟩
theorem cs74 (w0 : World) (hJ : J w0) : EnvCts Tryz.prog E74 w0 w0.heap.size := by
  refine ⟨fun c hc => ?_, fun c hc => ?_⟩
  · rcases List.mem_cons.1 hc with rfl | hc
    · exact fun w hb => all136 w (J_below hJ hb)
    cases hc
  · cases hc
noncomputable def ct74 : Ct := { f := 74, ps := [.v false .ro ls52, .v false .ro [.int .i64]], rs := [(false, [.int .i64])], shared := false, pre := fun (q : (List Gen) × Int) => pSz q.1 q.2, F := fun (q : (List Gen) × Int) => szF q.1 q.2 }
theorem law74 : ∀ q : (List Gen) × Int, pSz q.1 q.2 → szS (α := Gen) Dft.dft (fun y k => pSz y k) (fun y k => szF y k) q.1 q.2 (fun r => r = szF q.1 q.2) := fun q hq => szS_holds (α := Gen) Dft.dft cz wd q.1 q.2 hq.1.1 hq.1.2 hq.2.1 hq.2.2
theorem all74 (w : World) (hJ : J w) : CtAt Tryz.prog ct74 w :=
  ct_by ok74 (cs74 w hJ) Tryz.func74 (by kernel_rfl) (H := (hint [(5, [.val 1 (.int .i64), .val 5 (.int .i64)])])) law74 (by kernel_rfl)
noncomputable def E21 : Env := { tt, eqs := [], cts := [ct73, ct74] }
theorem ok21 : EnvOk Tryz.prog E21 := ⟨ttOk, by kernel_rfl, rfl, mixOk⟩
theorem cs21 (w0 : World) (hJ : J w0) : EnvCts Tryz.prog E21 w0 w0.heap.size := by
  refine ⟨fun c hc => ?_, fun c hc => ?_⟩
  · rcases List.mem_cons.1 hc with rfl | hc
    · exact fun w hb => all73 w (J_below hJ hb)
    rcases List.mem_cons.1 hc with rfl | hc
    · exact fun w hb => all74 w (J_below hJ hb)
    cases hc
  · cases hc
noncomputable def ct21 : Ct := { f := 21, ps := [.v true .ro ls54, .v false .ro [.int .i64]], rs := [(false, [.int .i64])], shared := false, pre := fun (q : Cch × Int) => pSz q.1 q.2, F := fun (q : Cch × Int) => szF q.1 q.2 }
def st21 : List (SzStep Cch) := [.call (fun x : Cch => wd (x.1 : (List Shd))) (fun x : Cch => cz (x.1 : (List Shd))), .call (fun x : Cch => wd (x.2 : (List Gen))) (fun x : Cch => cz (x.2 : (List Gen)))]
theorem c21 (x : Cch) : szSum x st21 = cz x := by
  simp only [szSum, st21, cz_pair, cz_int, cz_bool, cz_str]
  all_goals omega
theorem w21 (x : Cch) (h : wd x) : szFine x st21 := by
  first | simp only [wd_pair] at h | skip
  simp only [szFine, st21, wd_pair, wf_wd]
  simp only [h, and_self]
theorem law21 : ∀ q : Cch × Int, pSz q.1 q.2 → szSt q.1 st21 q.2 (fun r => r = szF q.1 q.2) := fun q hq => szSt_holds q.1 st21 q.2 _ (w21 q.1 hq.1) hq.2.1 hq.2.2 (c21 q.1)
theorem all21 (w : World) (hJ : J w) : CtAt Tryz.prog ct21 w :=
  ct_by ok21 (cs21 w hJ) Tryz.func21 (by kernel_rfl) (H := (hint [])) law21 (by kernel_rfl)
noncomputable def E130 : Env := { tt, eqs := [], cts := [] }
theorem ok130 : EnvOk Tryz.prog E130 := ⟨ttOk, by kernel_rfl, rfl, mixOk⟩
theorem cs130 (w0 : World) (hJ : J w0) : EnvCts Tryz.prog E130 w0 w0.heap.size := by
  refine ⟨fun c hc => ?_, fun c hc => ?_⟩
  · cases hc
  · cases hc
noncomputable def ct130 : Ct := { f := 130, ps := [.v true .ro ls159], rs := [(true, ls140)], shared := false, pre := fun (x : Fld) => pTo x, F := fun (x : Fld) => toF x }
theorem law130 : ∀ q : Fld, pTo q → conj [] (q = toF q) := fun q hq => rfl
theorem all130 (w : World) (hJ : J w) : CtAt Tryz.prog ct130 w :=
  ct_by ok130 (cs130 w hJ) Tryz.func130 (by kernel_rfl) (H := (hint [])) law130 (by kernel_rfl)
noncomputable def E63 : Env := { tt, eqs := [], cts := [ct130] }
theorem ok63 : EnvOk Tryz.prog E63 := ⟨ttOk, by kernel_rfl, rfl, mixOk⟩
theorem cs63 (w0 : World) (hJ : J w0) : EnvCts Tryz.prog E63 w0 w0.heap.size := by
  refine ⟨fun c hc => ?_, fun c hc => ?_⟩
  · rcases List.mem_cons.1 hc with rfl | hc
    · exact fun w hb => all130 w (J_below hJ hb)
    cases hc
  · cases hc
noncomputable def ct63 : Ct := { f := 63, ps := [.v false .ro ls35], rs := [(false, ls42)], shared := false, pre := fun (x : (List Fld)) => pTo x, F := fun (x : (List Fld)) => toF x }
theorem law63 : ∀ q : (List Fld), pTo q → toS (α := Fld) Dft.dft 32 (fun y => pTo y) q (fun r => r = toF q) := fun q hq => toS_holds (α := Fld) Dft.dft 32 (fun y => pTo y) q (md_len' hq) (by omega) (fun i a h => md_mem hq (List.mem_of_getElem? h)) rfl
theorem all63 (w : World) (hJ : J w) : CtAt Tryz.prog ct63 w :=
  ct_by ok63 (cs63 w hJ) Tryz.func63 (by kernel_rfl) (H := (hint [(3, [.reg 3 140 ls140 true, .val 4 (.int .i64)])])) law63 (by kernel_rfl)
noncomputable def E64 : Env := { tt, eqs := [], cts := [ct63] }
theorem ok64 : EnvOk Tryz.prog E64 := ⟨ttOk, by kernel_rfl, rfl, mixOk⟩
theorem cs64 (w0 : World) (hJ : J w0) : EnvCts Tryz.prog E64 w0 w0.heap.size := by
  refine ⟨fun c hc => ?_, fun c hc => ?_⟩
  · rcases List.mem_cons.1 hc with rfl | hc
    · exact fun w hb => all63 w (J_below hJ hb)
    cases hc
  · cases hc
noncomputable def ct64 : Ct := { f := 64, ps := [.v true .ro ls37], rs := [(true, ls44)], shared := false, pre := fun (x : Rsp) => pTo x, F := fun (x : Rsp) => toF x }
theorem law64 : ∀ q : Rsp, pTo q → conj [pTo (q.2.1 : (List Fld))] (q = toF q) := fun q hq => ⟨(czh (czt hq)), rfl⟩
theorem all64 (w : World) (hJ : J w) : CtAt Tryz.prog ct64 w :=
  ct_by ok64 (cs64 w hJ) Tryz.func64 (by kernel_rfl) (H := (hint [])) law64 (by kernel_rfl)
noncomputable def E17 : Env := { tt, eqs := [], cts := [ct63, ct64] }
theorem ok17 : EnvOk Tryz.prog E17 := ⟨ttOk, by kernel_rfl, rfl, mixOk⟩
theorem cs17 (w0 : World) (hJ : J w0) : EnvCts Tryz.prog E17 w0 w0.heap.size := by
  refine ⟨fun c hc => ?_, fun c hc => ?_⟩
  · rcases List.mem_cons.1 hc with rfl | hc
    · exact fun w hb => all63 w (J_below hJ hb)
    rcases List.mem_cons.1 hc with rfl | hc
    · exact fun w hb => all64 w (J_below hJ hb)
    cases hc
  · cases hc
noncomputable def ct17 : Ct := { f := 17, ps := [.v true .ro ls39], rs := [(true, ls46)], shared := false, pre := fun (x : Sto) => pTo x, F := fun (x : Sto) => toF x }
theorem law17 : ∀ q : Sto, pTo q → conj [pTo (q.2.1 : (List Fld)), pTo ((q.2.2.1, q.2.2.2.1, q.2.2.2.2.1) : Rsp)] (q = toF q) := fun q hq => ⟨(czh (czt hq)), (czm3 (czt (czt hq))), rfl⟩
theorem all17 (w : World) (hJ : J w) : CtAt Tryz.prog ct17 w :=
  ct_by ok17 (cs17 w hJ) Tryz.func17 (by kernel_rfl) (H := (hint [])) law17 (by kernel_rfl)
noncomputable def E119 : Env := { tt, eqs := [], cts := [ct17] }
theorem ok119 : EnvOk Tryz.prog E119 := ⟨ttOk, by kernel_rfl, rfl, mixOk⟩
theorem cs119 (w0 : World) (hJ : J w0) : EnvCts Tryz.prog E119 w0 w0.heap.size := by
  refine ⟨fun c hc => ?_, fun c hc => ?_⟩
  · rcases List.mem_cons.1 hc with rfl | hc
    · exact fun w hb => all17 w (J_below hJ hb)
    cases hc
  · cases hc
noncomputable def ct119 : Ct := { f := 119, ps := [.v true .ro ls150], rs := [(true, ls95)], shared := false, pre := fun (x : Slt) => pTo x, F := fun (x : Slt) => toF x }
theorem law119 : ∀ q : Slt, pTo q → conj [pTo ((q.1, q.2.1, q.2.2.1, q.2.2.2.1, q.2.2.2.2.1, q.2.2.2.2.2.1, q.2.2.2.2.2.2.1) : Sto)] (q = toF q) := fun q hq => ⟨(czm7 hq), rfl⟩
theorem all119 (w : World) (hJ : J w) : CtAt Tryz.prog ct119 w :=
  ct_by ok119 (cs119 w hJ) Tryz.func119 (by kernel_rfl) (H := (hint [])) law119 (by kernel_rfl)
noncomputable def E48 : Env := { tt, eqs := [], cts := [ct119], deep := true }
theorem ok48 : EnvOk Tryz.prog E48 := ⟨ttOk, by kernel_rfl, rfl, mixOk⟩
theorem cs48 (w0 : World) (hJ : J w0) : EnvCts Tryz.prog E48 w0 w0.heap.size := by
  refine ⟨fun c hc => ?_, fun c hc => ?_⟩
  · rcases List.mem_cons.1 hc with rfl | hc
    · exact fun w hb => all119 w (J_below hJ hb)
    cases hc
  · cases hc
noncomputable def ct48 : Ct := { f := 48, ps := [.v false .ro ls22], rs := [(false, ls26)], shared := false, pre := fun (x : (List Slt)) => pTo x, F := fun (x : (List Slt)) => toF x, deep := true }
theorem law48 : ∀ q : (List Slt), pTo q → toS (α := Slt) Dft.dft 112 (fun y => pTo y) q (fun r => r = toF q) := fun q hq => toS_holds (α := Slt) Dft.dft 112 (fun y => pTo y) q (md_len' hq) (by omega) (fun i a h => md_mem hq (List.mem_of_getElem? h)) rfl
theorem all48 (w : World) (hJ : J w) : CtAt Tryz.prog ct48 w :=
  ct_by ok48 (cs48 w hJ) Tryz.func48 (by kernel_rfl) (H := (hint [(3, [.reg 3 95 ls95 true true, .val 4 (.int .i64)])])) law48 (by kernel_rfl)
noncomputable def E10 : Env := { tt, eqs := [], cts := [ct48], deep := true }
theorem ok10 : EnvOk Tryz.prog E10 := ⟨ttOk, by kernel_rfl, rfl, mixOk⟩
theorem cs10 (w0 : World) (hJ : J w0) : EnvCts Tryz.prog E10 w0 w0.heap.size := by
  refine ⟨fun c hc => ?_, fun c hc => ?_⟩
  · rcases List.mem_cons.1 hc with rfl | hc
    · exact fun w hb => all48 w (J_below hJ hb)
    cases hc
  · cases hc
noncomputable def ct10 : Ct := { f := 10, ps := [.v true .ro ls24], rs := [(true, ls28)], shared := false, pre := fun (x : Shd) => pTo x, F := fun (x : Shd) => toF x, deep := true }
theorem law10 : ∀ q : Shd, pTo q → conj [pTo (q.2.2.1 : (List Slt))] (q = toF q) := fun q hq => ⟨(czh (czt (czt hq))), rfl⟩
theorem all10 (w : World) (hJ : J w) : CtAt Tryz.prog ct10 w :=
  ct_by ok10 (cs10 w hJ) Tryz.func10 (by kernel_rfl) (H := (hint [])) law10 (by kernel_rfl)
noncomputable def E79 : Env := { tt, eqs := [], cts := [ct10], deep := true }
theorem ok79 : EnvOk Tryz.prog E79 := ⟨ttOk, by kernel_rfl, rfl, mixOk⟩
theorem cs79 (w0 : World) (hJ : J w0) : EnvCts Tryz.prog E79 w0 w0.heap.size := by
  refine ⟨fun c hc => ?_, fun c hc => ?_⟩
  · rcases List.mem_cons.1 hc with rfl | hc
    · exact fun w hb => all10 w (J_below hJ hb)
    cases hc
  · cases hc
noncomputable def ct79 : Ct := { f := 79, ps := [.v false .ro ls51], rs := [(false, ls56)], shared := false, pre := fun (x : (List Shd)) => pTo x, F := fun (x : (List Shd)) => toF x, deep := true }
theorem law79 : ∀ q : (List Shd), pTo q → toS (α := Shd) Dft.dft 48 (fun y => pTo y) q (fun r => r = toF q) := fun q hq => toS_holds (α := Shd) Dft.dft 48 (fun y => pTo y) q (md_len' hq) (by omega) (fun i a h => md_mem hq (List.mem_of_getElem? h)) rfl
theorem all79 (w : World) (hJ : J w) : CtAt Tryz.prog ct79 w :=
  ct_by ok79 (cs79 w hJ) Tryz.func79 (by kernel_rfl) (H := (hint [(3, [.reg 3 28 ls28 true true, .val 4 (.int .i64)])])) law79 (by kernel_rfl)
noncomputable def E138 : Env := { tt, eqs := [], cts := [] }
theorem ok138 : EnvOk Tryz.prog E138 := ⟨ttOk, by kernel_rfl, rfl, mixOk⟩
theorem cs138 (w0 : World) (hJ : J w0) : EnvCts Tryz.prog E138 w0 w0.heap.size := by
  refine ⟨fun c hc => ?_, fun c hc => ?_⟩
  · cases hc
  · cases hc
noncomputable def ct138 : Ct := { f := 138, ps := [.v true .ro ls166], rs := [(true, ls127)], shared := false, pre := fun (x : Gen) => pTo x, F := fun (x : Gen) => toF x }
theorem law138 : ∀ q : Gen, pTo q → conj [] (q = toF q) := fun q hq => rfl
theorem all138 (w : World) (hJ : J w) : CtAt Tryz.prog ct138 w :=
  ct_by ok138 (cs138 w hJ) Tryz.func138 (by kernel_rfl) (H := (hint [])) law138 (by kernel_rfl)
noncomputable def E80 : Env := { tt, eqs := [], cts := [ct138] }
theorem ok80 : EnvOk Tryz.prog E80 := ⟨ttOk, by kernel_rfl, rfl, mixOk⟩
theorem cs80 (w0 : World) (hJ : J w0) : EnvCts Tryz.prog E80 w0 w0.heap.size := by
  refine ⟨fun c hc => ?_, fun c hc => ?_⟩
  · rcases List.mem_cons.1 hc with rfl | hc
    · exact fun w hb => all138 w (J_below hJ hb)
    cases hc
  · cases hc
noncomputable def ct80 : Ct := { f := 80, ps := [.v false .ro ls52], rs := [(false, ls57)], shared := false, pre := fun (x : (List Gen)) => pTo x, F := fun (x : (List Gen)) => toF x }
theorem law80 : ∀ q : (List Gen), pTo q → toS (α := Gen) Dft.dft 24 (fun y => pTo y) q (fun r => r = toF q) := fun q hq => toS_holds (α := Gen) Dft.dft 24 (fun y => pTo y) q (md_len' hq) (by omega) (fun i a h => md_mem hq (List.mem_of_getElem? h)) rfl
theorem all80 (w : World) (hJ : J w) : CtAt Tryz.prog ct80 w :=
  ct_by ok80 (cs80 w hJ) Tryz.func80 (by kernel_rfl) (H := (hint [(3, [.reg 3 127 ls127 true, .val 4 (.int .i64)])])) law80 (by kernel_rfl)
noncomputable def E23 : Env := { tt, eqs := [], cts := [ct79, ct80], deep := true }
theorem ok23 : EnvOk Tryz.prog E23 := ⟨ttOk, by kernel_rfl, rfl, mixOk⟩
theorem cs23 (w0 : World) (hJ : J w0) : EnvCts Tryz.prog E23 w0 w0.heap.size := by
  refine ⟨fun c hc => ?_, fun c hc => ?_⟩
  · rcases List.mem_cons.1 hc with rfl | hc
    · exact fun w hb => all79 w (J_below hJ hb)
    rcases List.mem_cons.1 hc with rfl | hc
    · exact fun w hb => all80 w (J_below hJ hb)
    cases hc
  · cases hc
noncomputable def ct23 : Ct := { f := 23, ps := [.v true .ro ls54], rs := [(true, ls59)], shared := false, pre := fun (x : Cch) => pTo x, F := fun (x : Cch) => toF x, deep := true }
theorem law23 : ∀ q : Cch, pTo q → conj [pTo (q.1 : (List Shd)), pTo (q.2 : (List Gen))] (q = toF q) := fun q hq => ⟨(czh hq), (czt hq), rfl⟩
theorem all23 (w : World) (hJ : J w) : CtAt Tryz.prog ct23 w :=
  ct_by ok23 (cs23 w hJ) Tryz.func23 (by kernel_rfl) (H := (hint [])) law23 (by kernel_rfl)
noncomputable def E129 : Env := { tt, eqs := [], cts := [] }
theorem ok129 : EnvOk Tryz.prog E129 := ⟨ttOk, by kernel_rfl, rfl, mixOk⟩
theorem cs129 (w0 : World) (hJ : J w0) : EnvCts Tryz.prog E129 w0 w0.heap.size := by
  refine ⟨fun c hc => ?_, fun c hc => ?_⟩
  · cases hc
  · cases hc
noncomputable def ct129 : Ct := { f := 129, ps := [.v true .ro ls44], rs := [(true, ls44)], shared := false, pre := fun (x : Rsp) => pL12Resp x, F := fun (x : Rsp) => mL12Resp x }
theorem law129 : ∀ x : Rsp, pL12Resp x → s_spec_l12Resp x (fun r => r = mL12Resp x) := fun x h => spec_l12Resp_ok x h
theorem all129 (w : World) (hJ : J w) : CtAt Tryz.prog ct129 w :=
  ct_by ok129 (cs129 w hJ) Tryz.func129 (by kernel_rfl) (H := (hint [])) law129 (by kernel_rfl)
noncomputable def E62 : Env := { tt, eqs := [], cts := [ct129] }
theorem ok62 : EnvOk Tryz.prog E62 := ⟨ttOk, by kernel_rfl, rfl, mixOk⟩
theorem cs62 (w0 : World) (hJ : J w0) : EnvCts Tryz.prog E62 w0 w0.heap.size := by
  refine ⟨fun c hc => ?_, fun c hc => ?_⟩
  · rcases List.mem_cons.1 hc with rfl | hc
    · exact fun w hb => all129 w (J_below hJ hb)
    cases hc
  · cases hc
noncomputable def ct62 : Ct := { f := 62, ps := [.v true .ro ls46], rs := [(true, ls46)], shared := false, pre := fun (x : Sto) => pL12One x, F := fun (x : Sto) => mL12One x }
theorem law62 : ∀ x : Sto, pL12One x → s_spec_l12One x (fun r => r = mL12One x) := fun x h => spec_l12One_ok x h
theorem all62 (w : World) (hJ : J w) : CtAt Tryz.prog ct62 w :=
  ct_by ok62 (cs62 w hJ) Tryz.func62 (by kernel_rfl) (H := (hint [])) law62 (by kernel_rfl)
noncomputable def E45 : Env := { tt, eqs := [], cts := [ct62], deep := true }
theorem ok45 : EnvOk Tryz.prog E45 := ⟨ttOk, by kernel_rfl, rfl, mixOk⟩
theorem cs45 (w0 : World) (hJ : J w0) : EnvCts Tryz.prog E45 w0 w0.heap.size := by
  refine ⟨fun c hc => ?_, fun c hc => ?_⟩
  · rcases List.mem_cons.1 hc with rfl | hc
    · exact fun w hb => all62 w (J_below hJ hb)
    cases hc
  · cases hc
noncomputable def ct45 : Ct := { f := 45, ps := [.v true .ro ls28], rs := [(true, ls28)], shared := false, pre := fun (x : Shd) => pL12Copy x, F := fun (x : Shd) => mL12Copy x, deep := true }
theorem law45 : ∀ x : Shd, pL12Copy x → s_spec_l12Copy x (fun r => r = mL12Copy x) := fun x h => spec_l12Copy_ok x h
theorem all45 (w : World) (hJ : J w) : CtAt Tryz.prog ct45 w :=
  ct_by ok45 (cs45 w hJ) Tryz.func45 (by kernel_rfl) (H := (hint [(3, [.reg 3 95 [.str, .list 140 [.str, .str], .int .i64, .list 140 [.str, .str], .str, .int .i64, .int .i64, .bool] true true, .val 4 (.int .i64)])])) law45 (by kernel_rfl)
noncomputable def E75 : Env := { tt, eqs := [], cts := [ct45], deep := true }
theorem ok75 : EnvOk Tryz.prog E75 := ⟨ttOk, by kernel_rfl, rfl, mixOk⟩
theorem cs75 (w0 : World) (hJ : J w0) : EnvCts Tryz.prog E75 w0 w0.heap.size := by
  refine ⟨fun c hc => ?_, fun c hc => ?_⟩
  · rcases List.mem_cons.1 hc with rfl | hc
    · exact fun w hb => all45 w (J_below hJ hb)
    cases hc
  · cases hc
noncomputable def ct75 : Ct := { f := 75, ps := [.v true .ro ls59], rs := [(true, ls59)], shared := false, pre := fun (x : Cch) => pL13Copy x, F := fun (x : Cch) => mL13Copy x, deep := true }
theorem law75 : ∀ x : Cch, pL13Copy x → s_spec_l13Copy x (fun r => r = mL13Copy x) := fun x h => spec_l13Copy_ok x h
theorem all75 (w : World) (hJ : J w) : CtAt Tryz.prog ct75 w :=
  ct_by ok75 (cs75 w hJ) Tryz.func75 (by kernel_rfl) (H := (hint [(3, [.val 4 (.int .i64), .breg 3 0 28 [.int .i64, .int .i64, .list 95 [.str, .list 140 [.str, .str], .int .i64, .list 140 [.str, .str], .str, .int .i64, .int .i64, .bool], .int .i64] true, .breg 3 1 127 [.str, .int .i64]])])) law75 (by kernel_rfl)
noncomputable def E102 : Env := { tt, eqs := [], cts := [] }
theorem ok102 : EnvOk Tryz.prog E102 := ⟨ttOk, by kernel_rfl, rfl, mixOk⟩
theorem cs102 (w0 : World) (hJ : J w0) : EnvCts Tryz.prog E102 w0 w0.heap.size := by
  refine ⟨fun c hc => ?_, fun c hc => ?_⟩
  · cases hc
  · cases hc
noncomputable def ct102 : Ct := { f := 102, ps := [.v false .ro ls3, .v false .ro ls3, .v false .ro ls3], rs := [(false, ls4)], shared := false, pre := fun (x : Int × Int × Int) => pIn x.1 x.2.1 x.2.2, F := fun (x : Int × Int × Int) => mIn x.1 x.2.1 x.2.2 }
theorem law102 : ∀ x : Int × Int × Int, pIn x.1 x.2.1 x.2.2 → s_spec_l1In x.1 x.2.1 x.2.2 (fun r => r = mIn x.1 x.2.1 x.2.2) := fun x _ => spec_l1In_ok x.1 x.2.1 x.2.2
theorem all102 (w : World) (hJ : J w) : CtAt Tryz.prog ct102 w :=
  ct_by ok102 (cs102 w hJ) Tryz.func102 (by kernel_rfl) (H := (hint [])) law102 (by kernel_rfl)
noncomputable def E60 : Env := { tt, eqs := [], cts := [] }
theorem ok60 : EnvOk Tryz.prog E60 := ⟨ttOk, by kernel_rfl, rfl, mixOk⟩
theorem cs60 (w0 : World) (hJ : J w0) : EnvCts Tryz.prog E60 w0 w0.heap.size := by
  refine ⟨fun c hc => ?_, fun c hc => ?_⟩
  · cases hc
  · cases hc
noncomputable def ct60 : Ct := { f := 60, ps := [.v true .ro ls28], rs := [(false, ls3)], shared := false, pre := fun (x : Shd) => pFilledS x, F := fun (x : Shd) => mFilledS x }
theorem law60 : ∀ x : Shd, pFilledS x → s_spec_l12Filled x (fun r => r = mFilledS x) := fun x h => spec_l12Filled_ok x h
theorem all60 (w : World) (hJ : J w) : CtAt Tryz.prog ct60 w :=
  ct_by ok60 (cs60 w hJ) Tryz.func60 (by kernel_rfl) (H := (hint [(3, [.val 3 (.int .i64), .val 4 (.int .i64)])])) law60 (by kernel_rfl)
noncomputable def E91 : Env := { tt, eqs := [], cts := [ct102] }
theorem ok91 : EnvOk Tryz.prog E91 := ⟨ttOk, by kernel_rfl, rfl, mixOk⟩
theorem cs91 (w0 : World) (hJ : J w0) : EnvCts Tryz.prog E91 w0 w0.heap.size := by
  refine ⟨fun c hc => ?_, fun c hc => ?_⟩
  · rcases List.mem_cons.1 hc with rfl | hc
    · exact fun w hb => all102 w (J_below hJ hb)
    cases hc
  · cases hc
noncomputable def ct91 : Ct := { f := 91, ps := [.v false .ro ls9], rs := [(false, ls4)], shared := false, pre := fun (x : S) => pUriOk x, F := fun (x : S) => mUriOk x }
theorem law91 : ∀ x : S, pUriOk x → s_spec_UriOk x (fun r => r = mUriOk x) := fun x h => spec_UriOk_ok x h
theorem all91 (w : World) (hJ : J w) : CtAt Tryz.prog ct91 w :=
  ct_by ok91 (cs91 w hJ) Tryz.func91 (by kernel_rfl) (H := (hint [(2, [.val 3 (.int .i64)])])) law91 (by kernel_rfl)
noncomputable def E167 : Env := { tt, eqs := [], cts := [] }
theorem ok167 : EnvOk Tryz.prog E167 := ⟨ttOk, by kernel_rfl, rfl, mixOk⟩
theorem cs167 (w0 : World) (hJ : J w0) : EnvCts Tryz.prog E167 w0 w0.heap.size := by
  refine ⟨fun c hc => ?_, fun c hc => ?_⟩
  · cases hc
  · cases hc
noncomputable def ct167 : Ct := { f := 167, ps := [.v false .ro ls42, .v false .ro ls9], rs := [(false, ls9), (false, ls4)], shared := false, pre := fun (x : (List Fld) × S) => pFieldGet x.1 x.2, F := fun (x : (List Fld) × S) => mFieldGet x.1 x.2 }
theorem law167 : ∀ x : (List Fld) × S, pFieldGet x.1 x.2 → s_spec_FieldGet x.1 x.2 (fun r => r = mFieldGet x.1 x.2) := fun x h => spec_FieldGet_ok x.1 x.2 h
theorem all167 (w : World) (hJ : J w) : CtAt Tryz.prog ct167 w :=
  ct_by ok167 (cs167 w hJ) Tryz.func167 (by kernel_rfl) (H := (hint [(4, [.val 6 (.str), .val 7 (.bool), .val 8 (.int .i64)])])) law167 (by kernel_rfl)
noncomputable def E223 : Env := { tt, eqs := [], cts := [] }
theorem ok223 : EnvOk Tryz.prog E223 := ⟨ttOk, by kernel_rfl, rfl, mixOk⟩
theorem cs223 (w0 : World) (hJ : J w0) : EnvCts Tryz.prog E223 w0 w0.heap.size := by
  refine ⟨fun c hc => ?_, fun c hc => ?_⟩
  · cases hc
  · cases hc
noncomputable def ct223 : Ct := { f := 223, ps := [.v false .ro ls5], rs := [(false, ls4)], shared := false, pre := fun (x : Int) => pToken x, F := fun (x : Int) => mToken x }
theorem law223 : ∀ x : Int, pToken x → s_spec_l2Token x (fun r => r = mToken x) := fun x _ => spec_l2Token_ok x
theorem all223 (w : World) (hJ : J w) : CtAt Tryz.prog ct223 w :=
  ct_by ok223 (cs223 w hJ) Tryz.func223 (by kernel_rfl) (H := (hint [])) law223 (by kernel_rfl)
noncomputable def E204 : Env := { tt, eqs := [], cts := [ct223] }
theorem ok204 : EnvOk Tryz.prog E204 := ⟨ttOk, by kernel_rfl, rfl, mixOk⟩
theorem cs204 (w0 : World) (hJ : J w0) : EnvCts Tryz.prog E204 w0 w0.heap.size := by
  refine ⟨fun c hc => ?_, fun c hc => ?_⟩
  · rcases List.mem_cons.1 hc with rfl | hc
    · exact fun w hb => all223 w (J_below hJ hb)
    cases hc
  · cases hc
noncomputable def ct204 : Ct := { f := 204, ps := [.v false .ro ls9], rs := [(false, ls4)], shared := false, pre := fun (x : S) => pIsTokenText x, F := fun (x : S) => mIsTokenText x }
theorem law204 : ∀ x : S, pIsTokenText x → s_spec_IsTokenText x (fun r => r = mIsTokenText x) := fun x h => spec_IsTokenText_ok x h
theorem all204 (w : World) (hJ : J w) : CtAt Tryz.prog ct204 w :=
  ct_by ok204 (cs204 w hJ) Tryz.func204 (by kernel_rfl) (H := (hint [(2, [.val 3 (.int .i64)])])) law204 (by kernel_rfl)
noncomputable def E205 : Env := { tt, eqs := [], cts := [] }
theorem ok205 : EnvOk Tryz.prog E205 := ⟨ttOk, by kernel_rfl, rfl, mixOk⟩
theorem cs205 (w0 : World) (hJ : J w0) : EnvCts Tryz.prog E205 w0 w0.heap.size := by
  refine ⟨fun c hc => ?_, fun c hc => ?_⟩
  · cases hc
  · cases hc
noncomputable def ct205 : Ct := { f := 205, ps := [.v false .ro ls9], rs := [(false, ls9)], shared := false, pre := fun (x : S) => pLower x, F := fun (x : S) => mLower x }
theorem law205 : ∀ x : S, pLower x → s_spec_Lower x (fun r => r = mLower x) := fun x h => spec_Lower_ok x h
theorem all205 (w : World) (hJ : J w) : CtAt Tryz.prog ct205 w :=
  ct_by ok205 (cs205 w hJ) Tryz.func205 (by kernel_rfl) (H := (hint [(3, [.val 4 (.int .i64), .reg 3 5 [.int .u8] false])])) law205 (by kernel_rfl)
noncomputable def E207 : Env := { tt, eqs := [], cts := [] }
theorem ok207 : EnvOk Tryz.prog E207 := ⟨ttOk, by kernel_rfl, rfl, mixOk⟩
theorem cs207 (w0 : World) (hJ : J w0) : EnvCts Tryz.prog E207 w0 w0.heap.size := by
  refine ⟨fun c hc => ?_, fun c hc => ?_⟩
  · cases hc
  · cases hc
noncomputable def ct207 : Ct := { f := 207, ps := [.v false .ro ls5], rs := [(false, ls4)], shared := false, pre := fun (x : Int) => pBlank x, F := fun (x : Int) => mBlank x }
theorem law207 : ∀ x : Int, pBlank x → s_spec_l2Blank x (fun r => r = mBlank x) := fun x _ => spec_l2Blank_ok x
theorem all207 (w : World) (hJ : J w) : CtAt Tryz.prog ct207 w :=
  ct_by ok207 (cs207 w hJ) Tryz.func207 (by kernel_rfl) (H := (hint [])) law207 (by kernel_rfl)
noncomputable def E190 : Env := { tt, eqs := [], cts := [ct207] }
theorem ok190 : EnvOk Tryz.prog E190 := ⟨ttOk, by kernel_rfl, rfl, mixOk⟩
theorem cs190 (w0 : World) (hJ : J w0) : EnvCts Tryz.prog E190 w0 w0.heap.size := by
  refine ⟨fun c hc => ?_, fun c hc => ?_⟩
  · rcases List.mem_cons.1 hc with rfl | hc
    · exact fun w hb => all207 w (J_below hJ hb)
    cases hc
  · cases hc
noncomputable def ct190 : Ct := { f := 190, ps := [.v false .ro ls9], rs := [(false, ls9)], shared := false, pre := fun (x : S) => pTrim x, F := fun (x : S) => mTrim x }
theorem law190 : ∀ x : S, pTrim x → s_spec_Trim x (fun r => r = mTrim x) := fun x h => spec_Trim_ok x h
theorem all190 (w : World) (hJ : J w) : CtAt Tryz.prog ct190 w :=
  ct_by ok190 (cs190 w hJ) Tryz.func190 (by kernel_rfl) (H := (hint [(1, [.val 0 (.str)]), (3, [.val 0 (.str)])])) law190 (by kernel_rfl)
noncomputable def E206 : Env := { tt, eqs := [], cts := [ct190] }
theorem ok206 : EnvOk Tryz.prog E206 := ⟨ttOk, by kernel_rfl, rfl, mixOk⟩
theorem cs206 (w0 : World) (hJ : J w0) : EnvCts Tryz.prog E206 w0 w0.heap.size := by
  refine ⟨fun c hc => ?_, fun c hc => ?_⟩
  · rcases List.mem_cons.1 hc with rfl | hc
    · exact fun w hb => all190 w (J_below hJ hb)
    cases hc
  · cases hc
noncomputable def ct206 : Ct := { f := 206, ps := [.v false .ro ls9], rs := [(false, ls4)], shared := false, pre := fun (x : S) => pIsValueText x, F := fun (x : S) => mIsValueText x }
theorem law206 : ∀ x : S, pIsValueText x → s_spec_IsValueText x (fun r => r = mIsValueText x) := fun x h => spec_IsValueText_ok x h
theorem all206 (w : World) (hJ : J w) : CtAt Tryz.prog ct206 w :=
  ct_by ok206 (cs206 w hJ) Tryz.func206 (by kernel_rfl) (H := (hint [(2, [.val 3 (.int .i64)])])) law206 (by kernel_rfl)
noncomputable def E189 : Env := { tt, eqs := [], cts := [ct204, ct205, ct206] }
theorem ok189 : EnvOk Tryz.prog E189 := ⟨ttOk, by kernel_rfl, rfl, mixOk⟩
theorem cs189 (w0 : World) (hJ : J w0) : EnvCts Tryz.prog E189 w0 w0.heap.size := by
  refine ⟨fun c hc => ?_, fun c hc => ?_⟩
  · rcases List.mem_cons.1 hc with rfl | hc
    · exact fun w hb => all204 w (J_below hJ hb)
    rcases List.mem_cons.1 hc with rfl | hc
    · exact fun w hb => all205 w (J_below hJ hb)
    rcases List.mem_cons.1 hc with rfl | hc
    · exact fun w hb => all206 w (J_below hJ hb)
    cases hc
  · cases hc
noncomputable def ct189 : Ct := { f := 189, ps := [.v true .ro ls140], rs := [(false, ls4)], shared := false, pre := fun (x : Fld) => pFieldOk x, F := fun (x : Fld) => mFieldOk x }
theorem law189 : ∀ x : Fld, pFieldOk x → s_spec_l3FieldOk x (fun r => r = mFieldOk x) := fun x h => spec_l3FieldOk_ok x h
theorem all189 (w : World) (hJ : J w) : CtAt Tryz.prog ct189 w :=
  ct_by ok189 (cs189 w hJ) Tryz.func189 (by kernel_rfl) (H := (hint [])) law189 (by kernel_rfl)
noncomputable def E168 : Env := { tt, eqs := [], cts := [ct189] }
theorem ok168 : EnvOk Tryz.prog E168 := ⟨ttOk, by kernel_rfl, rfl, mixOk⟩
theorem cs168 (w0 : World) (hJ : J w0) : EnvCts Tryz.prog E168 w0 w0.heap.size := by
  refine ⟨fun c hc => ?_, fun c hc => ?_⟩
  · rcases List.mem_cons.1 hc with rfl | hc
    · exact fun w hb => all189 w (J_below hJ hb)
    cases hc
  · cases hc
noncomputable def ct168 : Ct := { f := 168, ps := [.v false .ro ls42], rs := [(false, ls4)], shared := false, pre := fun (x : (List Fld)) => pFieldsOk x, F := fun (x : (List Fld)) => mFieldsOk x }
theorem law168 : ∀ x : (List Fld), pFieldsOk x → s_spec_FieldsOk x (fun r => r = mFieldsOk x) := fun x h => spec_FieldsOk_ok x h
theorem all168 (w : World) (hJ : J w) : CtAt Tryz.prog ct168 w :=
  ct_by ok168 (cs168 w hJ) Tryz.func168 (by kernel_rfl) (H := (hint [(2, [.val 3 (.int .i64)])])) law168 (by kernel_rfl)
noncomputable def E147 : Env := { tt, eqs := [], cts := [ct167, ct168] }
theorem ok147 : EnvOk Tryz.prog E147 := ⟨ttOk, by kernel_rfl, rfl, mixOk⟩
theorem cs147 (w0 : World) (hJ : J w0) : EnvCts Tryz.prog E147 w0 w0.heap.size := by
  refine ⟨fun c hc => ?_, fun c hc => ?_⟩
  · rcases List.mem_cons.1 hc with rfl | hc
    · exact fun w hb => all167 w (J_below hJ hb)
    rcases List.mem_cons.1 hc with rfl | hc
    · exact fun w hb => all168 w (J_below hJ hb)
    cases hc
  · cases hc
noncomputable def ct147 : Ct := { f := 147, ps := [.v false .ro ls42], rs := [(false, ls4)], shared := false, pre := fun (x : (List Fld)) => pOwnFields x, F := fun (x : (List Fld)) => mOwnFields x }
theorem law147 : ∀ x : (List Fld), pOwnFields x → s_spec_l6Plain x (fun r => r = mOwnFields x) := fun x h => spec_l6Plain_ok x h
theorem all147 (w : World) (hJ : J w) : CtAt Tryz.prog ct147 w :=
  ct_by ok147 (cs147 w hJ) Tryz.func147 (by kernel_rfl) (H := (hint [])) law147 (by kernel_rfl)
noncomputable def E127 : Env := { tt, eqs := [], cts := [ct102, ct147] }
theorem ok127 : EnvOk Tryz.prog E127 := ⟨ttOk, by kernel_rfl, rfl, mixOk⟩
theorem cs127 (w0 : World) (hJ : J w0) : EnvCts Tryz.prog E127 w0 w0.heap.size := by
  refine ⟨fun c hc => ?_, fun c hc => ?_⟩
  · rcases List.mem_cons.1 hc with rfl | hc
    · exact fun w hb => all102 w (J_below hJ hb)
    rcases List.mem_cons.1 hc with rfl | hc
    · exact fun w hb => all147 w (J_below hJ hb)
    cases hc
  · cases hc
noncomputable def ct127 : Ct := { f := 127, ps := [.v true .ro ls44], rs := [(false, ls4)], shared := false, pre := fun (x : Rsp) => pResponseOk x, F := fun (x : Rsp) => mResponseOk x }
theorem law127 : ∀ x : Rsp, pResponseOk x → s_spec_ResponseOk x (fun r => r = mResponseOk x) := fun x h => spec_ResponseOk_ok x h
theorem all127 (w : World) (hJ : J w) : CtAt Tryz.prog ct127 w :=
  ct_by ok127 (cs127 w hJ) Tryz.func127 (by kernel_rfl) (H := (hint [])) law127 (by kernel_rfl)
noncomputable def E58 : Env := { tt, eqs := [], cts := [ct91, ct127, ct102] }
theorem ok58 : EnvOk Tryz.prog E58 := ⟨ttOk, by kernel_rfl, rfl, mixOk⟩
theorem cs58 (w0 : World) (hJ : J w0) : EnvCts Tryz.prog E58 w0 w0.heap.size := by
  refine ⟨fun c hc => ?_, fun c hc => ?_⟩
  · rcases List.mem_cons.1 hc with rfl | hc
    · exact fun w hb => all91 w (J_below hJ hb)
    rcases List.mem_cons.1 hc with rfl | hc
    · exact fun w hb => all127 w (J_below hJ hb)
    rcases List.mem_cons.1 hc with rfl | hc
    · exact fun w hb => all102 w (J_below hJ hb)
    cases hc
  · cases hc
noncomputable def ct58 : Ct := { f := 58, ps := [.v true .ro ls46], rs := [(false, ls4)], shared := false, pre := fun (x : Sto) => pStoredOk x, F := fun (x : Sto) => mStoredOk x }
theorem law58 : ∀ x : Sto, pStoredOk x → s_spec_StoredOk x (fun r => r = mStoredOk x) := fun x h => spec_StoredOk_ok x h
theorem all58 (w : World) (hJ : J w) : CtAt Tryz.prog ct58 w :=
  ct_by ok58 (cs58 w hJ) Tryz.func58 (by kernel_rfl) (H := (hint [])) law58 (by kernel_rfl)
noncomputable def E128 : Env := { tt, eqs := [140], cts := [] }
theorem ok128 : EnvOk Tryz.prog E128 := ⟨ttOk, by kernel_rfl, rfl, mixOk⟩
theorem cs128 (w0 : World) (hJ : J w0) : EnvCts Tryz.prog E128 w0 w0.heap.size := by
  refine ⟨fun c hc => ?_, fun c hc => ?_⟩
  · cases hc
  · cases hc
noncomputable def ct128 : Ct := { f := 128, ps := [.v false .ro ls42, .v false .ro ls42], rs := [(false, ls4)], shared := false, pre := fun (x : (List Fld) × (List Fld)) => pSameFields x.1 x.2, F := fun (x : (List Fld) × (List Fld)) => mSameFields x.1 x.2 }
theorem law128 : ∀ x : (List Fld) × (List Fld), pSameFields x.1 x.2 → s_spec_SameFields x.1 x.2 (fun r => r = mSameFields x.1 x.2) := fun x h => spec_SameFields_ok x.1 x.2 h
theorem all128 (w : World) (hJ : J w) : CtAt Tryz.prog ct128 w :=
  ct_by ok128 (cs128 w hJ) Tryz.func128 (by kernel_rfl) (H := (hint [(4, [.val 5 (.int .i64)])])) law128 (by kernel_rfl)
noncomputable def E59 : Env := { tt, eqs := [], cts := [ct128] }
theorem ok59 : EnvOk Tryz.prog E59 := ⟨ttOk, by kernel_rfl, rfl, mixOk⟩
theorem cs59 (w0 : World) (hJ : J w0) : EnvCts Tryz.prog E59 w0 w0.heap.size := by
  refine ⟨fun c hc => ?_, fun c hc => ?_⟩
  · rcases List.mem_cons.1 hc with rfl | hc
    · exact fun w hb => all128 w (J_below hJ hb)
    cases hc
  · cases hc
noncomputable def ct59 : Ct := { f := 59, ps := [.v true .ro ls46, .v true .ro ls46], rs := [(false, ls4)], shared := false, pre := fun (x : Sto × Sto) => pStandAlike x.1 x.2, F := fun (x : Sto × Sto) => mStandAlike x.1 x.2 }
theorem law59 : ∀ x : Sto × Sto, pStandAlike x.1 x.2 → s_spec_l12Same x.1 x.2 (fun r => r = mStandAlike x.1 x.2) := fun x h => spec_l12Same_ok x.1 x.2 h
theorem all59 (w : World) (hJ : J w) : CtAt Tryz.prog ct59 w :=
  ct_by ok59 (cs59 w hJ) Tryz.func59 (by kernel_rfl) (H := (hint [])) law59 (by kernel_rfl)
noncomputable def E46 : Env := { tt, eqs := [], cts := [ct102, ct60, ct58, ct59] }
theorem ok46 : EnvOk Tryz.prog E46 := ⟨ttOk, by kernel_rfl, rfl, mixOk⟩
theorem cs46 (w0 : World) (hJ : J w0) : EnvCts Tryz.prog E46 w0 w0.heap.size := by
  refine ⟨fun c hc => ?_, fun c hc => ?_⟩
  · rcases List.mem_cons.1 hc with rfl | hc
    · exact fun w hb => all102 w (J_below hJ hb)
    rcases List.mem_cons.1 hc with rfl | hc
    · exact fun w hb => all60 w (J_below hJ hb)
    rcases List.mem_cons.1 hc with rfl | hc
    · exact fun w hb => all58 w (J_below hJ hb)
    rcases List.mem_cons.1 hc with rfl | hc
    · exact fun w hb => all59 w (J_below hJ hb)
    cases hc
  · cases hc
noncomputable def ct46 : Ct := { f := 46, ps := [.v true .ro ls28], rs := [(false, ls4)], shared := false, pre := fun (x : Shd) => pShardOk x, F := fun (x : Shd) => mShardOk x }
theorem law46 : ∀ x : Shd, pShardOk x → s_spec_ShardOk x (fun r => r = mShardOk x) := fun x h => spec_ShardOk_ok x h
theorem all46 (w : World) (hJ : J w) : CtAt Tryz.prog ct46 w :=
  ct_by ok46 (cs46 w hJ) Tryz.func46 (by kernel_rfl) (H := (hint [(6, [.val 3 (.int .i64)]), (11, [.val 4 (.int .i64)])])) law46 (by kernel_rfl)
noncomputable def E137 : Env := { tt, eqs := [], cts := [] }
theorem ok137 : EnvOk Tryz.prog E137 := ⟨ttOk, by kernel_rfl, rfl, mixOk⟩
theorem cs137 (w0 : World) (hJ : J w0) : EnvCts Tryz.prog E137 w0 w0.heap.size := by
  refine ⟨fun c hc => ?_, fun c hc => ?_⟩
  · cases hc
  · cases hc
noncomputable def ct137 : Ct := { f := 137, ps := [.v false .ro ls9], rs := [(false, ls3)], shared := false, pre := fun (x : S) => pFnv x, F := fun (x : S) => mFnv x }
theorem law137 : ∀ x : S, pFnv x → s_spec_Fnv x (fun r => r = mFnv x) := fun x h => spec_Fnv_ok x h
theorem all137 (w : World) (hJ : J w) : CtAt Tryz.prog ct137 w :=
  ct_by ok137 (cs137 w hJ) Tryz.func137 (by kernel_rfl) (H := (hint [(3, [.val 3 (.int .i64), .val 4 (.int .i64)])])) law137 (by kernel_rfl)
noncomputable def E78 : Env := { tt, eqs := [], cts := [ct137] }
theorem ok78 : EnvOk Tryz.prog E78 := ⟨ttOk, by kernel_rfl, rfl, mixOk⟩
theorem cs78 (w0 : World) (hJ : J w0) : EnvCts Tryz.prog E78 w0 w0.heap.size := by
  refine ⟨fun c hc => ?_, fun c hc => ?_⟩
  · rcases List.mem_cons.1 hc with rfl | hc
    · exact fun w hb => all137 w (J_below hJ hb)
    cases hc
  · cases hc
noncomputable def ct78 : Ct := { f := 78, ps := [.v true .ro ls59, .v false .ro ls9], rs := [(false, ls3)], shared := false, pre := fun (x : Cch × S) => pShardOf x.1 x.2, F := fun (x : Cch × S) => mShardOf x.1 x.2 }
theorem law78 : ∀ x : Cch × S, pShardOf x.1 x.2 → s_spec_ShardOf x.1 x.2 (fun r => r = mShardOf x.1 x.2) := fun x h => spec_ShardOf_ok x.1 x.2 h
theorem all78 (w : World) (hJ : J w) : CtAt Tryz.prog ct78 w :=
  ct_by ok78 (cs78 w hJ) Tryz.func78 (by kernel_rfl) (H := (hint [])) law78 (by kernel_rfl)
noncomputable def E76 : Env := { tt, eqs := [], cts := [ct102, ct46, ct78, ct91] }
theorem ok76 : EnvOk Tryz.prog E76 := ⟨ttOk, by kernel_rfl, rfl, mixOk⟩
theorem cs76 (w0 : World) (hJ : J w0) : EnvCts Tryz.prog E76 w0 w0.heap.size := by
  refine ⟨fun c hc => ?_, fun c hc => ?_⟩
  · rcases List.mem_cons.1 hc with rfl | hc
    · exact fun w hb => all102 w (J_below hJ hb)
    rcases List.mem_cons.1 hc with rfl | hc
    · exact fun w hb => all46 w (J_below hJ hb)
    rcases List.mem_cons.1 hc with rfl | hc
    · exact fun w hb => all78 w (J_below hJ hb)
    rcases List.mem_cons.1 hc with rfl | hc
    · exact fun w hb => all91 w (J_below hJ hb)
    cases hc
  · cases hc
noncomputable def ct76 : Ct := { f := 76, ps := [.v true .ro ls59], rs := [(false, ls4)], shared := false, pre := fun (x : Cch) => pCacheOk x, F := fun (x : Cch) => mCacheOk x }
theorem law76 : ∀ x : Cch, pCacheOk x → s_spec_CacheOk x (fun r => r = mCacheOk x) := fun x h => spec_CacheOk_ok x h
theorem all76 (w : World) (hJ : J w) : CtAt Tryz.prog ct76 w :=
  ct_by ok76 (cs76 w hJ) Tryz.func76 (by kernel_rfl) (H := (hint [(4, [.val 3 (.int .i64)]), (9, [.val 4 (.int .i64)]), (14, [.val 5 (.int .i64)])])) law76 (by kernel_rfl)
noncomputable def E77 : Env := { tt, eqs := [], cts := [] }
theorem ok77 : EnvOk Tryz.prog E77 := ⟨ttOk, by kernel_rfl, rfl, mixOk⟩
theorem cs77 (w0 : World) (hJ : J w0) : EnvCts Tryz.prog E77 w0 w0.heap.size := by
  refine ⟨fun c hc => ?_, fun c hc => ?_⟩
  · cases hc
  · cases hc
noncomputable def ct77 : Ct := { f := 77, ps := [.v true .ro ls59, .v false .ro ls9], rs := [(false, ls3)], shared := false, pre := fun (x : Cch × S) => pGenOf x.1 x.2, F := fun (x : Cch × S) => mGenOf x.1 x.2 }
theorem law77 : ∀ x : Cch × S, pGenOf x.1 x.2 → s_spec_GenOf x.1 x.2 (fun r => r = mGenOf x.1 x.2) := fun x h => spec_GenOf_ok x.1 x.2 h
theorem all77 (w : World) (hJ : J w) : CtAt Tryz.prog ct77 w :=
  ct_by ok77 (cs77 w hJ) Tryz.func77 (by kernel_rfl) (H := (hint [(2, [.val 5 (.int .i64)])])) law77 (by kernel_rfl)
noncomputable def ct47 : CtM := { f := 47, ps := [.v true .mv ls28, .v false .ro ls3], rs := [(true, ls28)], pre := fun (x : Shd × Int) => pL12Remove x.1 x.2, F := fun (x : Shd × Int) => mL12Remove x.1 x.2, W := fun (x : Shd × Int) => x, deep := true, q := true }
theorem all47 (m : Nat) (w : World) (hJ : Jn m w) : CtMAt Tryz.prog ct47 m w := CtMAt.ofTake (rem_ct (fun s i => pL12Remove s i) (fun _ _ h => h) m w) rfl
noncomputable def E61 : Env := { tt, eqs := [], cts := [], ms := [ct47], deep := true }
theorem ok61 : EnvOk Tryz.prog E61 := ⟨ttOk, by kernel_rfl, rfl, mixOk⟩
theorem cs61 (m : Nat) (w0 : World) (hJ : Jn m w0) : EnvCts Tryz.prog E61 w0 m := by
  refine ⟨fun c hc => ?_, fun c hc => ?_⟩
  · cases hc
  · rcases List.mem_cons.1 hc with rfl | hc
    · exact fun w hb => all47 m w (Jn_below hJ hb)
    cases hc
noncomputable def ct61 : CtM := { f := 61, ps := [.v true .mv ls28], rs := [(true, ls28)], pre := fun (x : Shd) => pL12Evict x, F := fun (x : Shd) => mL12Evict x, W := fun (x : Shd) => x, deep := true, q := true }
theorem law61 : ∀ x : Shd, pL12Evict x → s_spec_l12Evict x (fun r => r = mL12Evict x ∧ x = x) := fun x h => by
  have e : (fun r : Shd => r = mL12Evict x ∧ x = x) = fun r => r = mL12Evict x := by funext r; simp
  rw [e]
  exact spec_l12Evict_ok x h
theorem all61 (m : Nat) (w : World) (hJ : Jn m w) : CtMAt Tryz.prog ct61 m w :=
  ctq_by ok61 (cs61 m w hJ) Tryz.func61 (by kernel_rfl) (H := (hint [(1, [.box 1 0 (.int .i64), .box 1 1 (.int .i64), .breg 1 2 95 [.str, .list 140 [.str, .str], .int .i64, .list 140 [.str, .str], .str, .int .i64, .int .i64, .bool] true, .box 1 3 (.int .i64)])])) law61 (by kernel_rfl)
noncomputable def E16 : Env := { tt, eqs := [], cts := [ct45, ct46, ct58, ct59, ct60, ct62], ms := [ct47, ct61], deep := true, ord := [(7, ([0, 1, 2, 3, 4, 6, 5, 7], 6))] }
theorem ok16 : EnvOk Tryz.prog E16 := ⟨ttOk, by kernel_rfl, rfl, mixOk⟩
theorem cs16 (w0 : World) (hJ : J w0) : EnvCts Tryz.prog E16 w0 w0.heap.size := by
  refine ⟨fun c hc => ?_, fun c hc => ?_⟩
  · rcases List.mem_cons.1 hc with rfl | hc
    · exact fun w hb => all45 w (J_below hJ hb)
    rcases List.mem_cons.1 hc with rfl | hc
    · exact fun w hb => all46 w (J_below hJ hb)
    rcases List.mem_cons.1 hc with rfl | hc
    · exact fun w hb => all58 w (J_below hJ hb)
    rcases List.mem_cons.1 hc with rfl | hc
    · exact fun w hb => all59 w (J_below hJ hb)
    rcases List.mem_cons.1 hc with rfl | hc
    · exact fun w hb => all60 w (J_below hJ hb)
    rcases List.mem_cons.1 hc with rfl | hc
    · exact fun w hb => all62 w (J_below hJ hb)
    cases hc
  · rcases List.mem_cons.1 hc with rfl | hc
    · exact fun w hb => all47 w0.heap.size w (Jn_of hJ hb)
    rcases List.mem_cons.1 hc with rfl | hc
    · exact fun w hb => all61 w0.heap.size w (Jn_of hJ hb)
    cases hc
noncomputable def ct16 : Ct := { f := 16, ps := [.v true .ro ls28, .v true .ro ls46], rs := [(true, ls28), (false, ls3)], shared := false, pre := fun (x : Shd × Sto) => pShardPut x.1 x.2, F := fun (x : Shd × Sto) => mShardPut x.1 x.2, deep := true }
theorem law16 : ∀ x : Shd × Sto, pShardPut x.1 x.2 → s_spec_ShardPut x.1 x.2 (fun r => r = mShardPut x.1 x.2) := fun x h => spec_ShardPut_ok x.1 x.2 h
theorem all16 (w : World) (hJ : J w) : CtAt Tryz.prog ct16 w :=
  ct_by ok16 (cs16 w hJ) Tryz.func16 (by kernel_rfl) (H := (hint [(5, [.val 7 (.int .i64), .box 6 0 (.int .i64), .box 6 1 (.int .i64), .breg 6 2 95 [.str, .list 140 [.str, .str], .int .i64, .list 140 [.str, .str], .str, .int .i64, .int .i64, .bool] true, .box 6 3 (.int .i64)]), (12, [.val 8 (.int .i64), .box 6 0 (.int .i64), .box 6 1 (.int .i64), .breg 6 2 95 [.str, .list 140 [.str, .str], .int .i64, .list 140 [.str, .str], .str, .int .i64, .int .i64, .bool] true, .box 6 3 (.int .i64)])])) law16 (by kernel_rfl)
noncomputable def E22 : Env := { tt, eqs := [], cts := [ct75, ct76, ct58, ct77, ct78, ct16], deep := true }
theorem ok22 : EnvOk Tryz.prog E22 := ⟨ttOk, by kernel_rfl, rfl, mixOk⟩
theorem cs22 (w0 : World) (hJ : J w0) : EnvCts Tryz.prog E22 w0 w0.heap.size := by
  refine ⟨fun c hc => ?_, fun c hc => ?_⟩
  · rcases List.mem_cons.1 hc with rfl | hc
    · exact fun w hb => all75 w (J_below hJ hb)
    rcases List.mem_cons.1 hc with rfl | hc
    · exact fun w hb => all76 w (J_below hJ hb)
    rcases List.mem_cons.1 hc with rfl | hc
    · exact fun w hb => all58 w (J_below hJ hb)
    rcases List.mem_cons.1 hc with rfl | hc
    · exact fun w hb => all77 w (J_below hJ hb)
    rcases List.mem_cons.1 hc with rfl | hc
    · exact fun w hb => all78 w (J_below hJ hb)
    rcases List.mem_cons.1 hc with rfl | hc
    · exact fun w hb => all16 w (J_below hJ hb)
    cases hc
  · cases hc
noncomputable def ct22 : Ct := { f := 22, ps := [.v true .ro ls59, .v true .ro ls46, .v false .ro ls3], rs := [(true, ls59), (false, ls4)], shared := false, pre := fun (x : Cch × Sto × Int) => pCacheFill x.1 x.2.1 x.2.2, F := fun (x : Cch × Sto × Int) => mCacheFill x.1 x.2.1 x.2.2, deep := true }
theorem law22 : ∀ x : Cch × Sto × Int, pCacheFill x.1 x.2.1 x.2.2 → s_spec_CacheFill x.1 x.2.1 x.2.2 (fun r => r = mCacheFill x.1 x.2.1 x.2.2) := fun x h => spec_CacheFill_ok x.1 x.2.1 x.2.2 h
theorem all22 (w : World) (hJ : J w) : CtAt Tryz.prog ct22 w :=
  ct_by ok22 (cs22 w hJ) Tryz.func22 (by kernel_rfl) (H := (hint [])) law22 (by kernel_rfl)
noncomputable def E139 : Env := { tt, eqs := [], cts := [] }
theorem ok139 : EnvOk Tryz.prog E139 := ⟨ttOk, by kernel_rfl, rfl, mixOk⟩
theorem cs139 (w0 : World) (hJ : J w0) : EnvCts Tryz.prog E139 w0 w0.heap.size := by
  refine ⟨fun c hc => ?_, fun c hc => ?_⟩
  · cases hc
  · cases hc
noncomputable def ct139 : Ct := { f := 139, ps := [.v false .ro ls57], rs := [(false, ls57)], shared := false, pre := fun (x : (List Gen)) => pClone_GenRow x, F := fun (x : (List Gen)) => mClone_GenRow x }
theorem law139 : ∀ x : (List Gen), pClone_GenRow x → s_slices_Clone_GenRow x (fun r => r = mClone_GenRow x) := fun x h => slices_Clone_GenRow_ok x h
theorem all139 (w : World) (hJ : J w) : CtAt Tryz.prog ct139 w :=
  ct_by ok139 (cs139 w hJ) Tryz.func139 (by kernel_rfl) (H := (hint [])) law139 (by kernel_rfl)
noncomputable def E133 : Env := { tt, eqs := [], cts := [] }
theorem ok133 : EnvOk Tryz.prog E133 := ⟨ttOk, by kernel_rfl, rfl, mixOk⟩
theorem cs133 (w0 : World) (hJ : J w0) : EnvCts Tryz.prog E133 w0 w0.heap.size := by
  refine ⟨fun c hc => ?_, fun c hc => ?_⟩
  · cases hc
  · cases hc
noncomputable def ct133 : Ct := { f := 133, ps := [.v false .ro ls42], rs := [(false, ls42)], shared := false, pre := fun (x : (List Fld)) => pClone_Field x, F := fun (x : (List Fld)) => mClone_Field x }
theorem law133 : ∀ x : (List Fld), pClone_Field x → s_slices_Clone_Field x (fun r => r = mClone_Field x) := fun x h => slices_Clone_Field_ok x h
theorem all133 (w : World) (hJ : J w) : CtAt Tryz.prog ct133 w :=
  ct_by ok133 (cs133 w hJ) Tryz.func133 (by kernel_rfl) (H := (hint [])) law133 (by kernel_rfl)
noncomputable def E134 : Env := { tt, eqs := [], cts := [ct133] }
theorem ok134 : EnvOk Tryz.prog E134 := ⟨ttOk, by kernel_rfl, rfl, mixOk⟩
theorem cs134 (w0 : World) (hJ : J w0) : EnvCts Tryz.prog E134 w0 w0.heap.size := by
  refine ⟨fun c hc => ?_, fun c hc => ?_⟩
  · rcases List.mem_cons.1 hc with rfl | hc
    · exact fun w hb => all133 w (J_below hJ hb)
    cases hc
  · cases hc
noncomputable def ct134 : Ct := { f := 134, ps := [.v true .ro ls44], rs := [(true, ls44)], shared := false, pre := fun (x : Rsp) => pCloneResponse x, F := fun (x : Rsp) => mCloneResponse x }
theorem law134 : ∀ x : Rsp, pCloneResponse x → s_impl_cloneResponse x (fun r => r = mCloneResponse x) := fun x h => impl_cloneResponse_ok x h
theorem all134 (w : World) (hJ : J w) : CtAt Tryz.prog ct134 w :=
  ct_by ok134 (cs134 w hJ) Tryz.func134 (by kernel_rfl) (H := (hint [])) law134 (by kernel_rfl)
noncomputable def E70 : Env := { tt, eqs := [], cts := [ct133, ct134] }
theorem ok70 : EnvOk Tryz.prog E70 := ⟨ttOk, by kernel_rfl, rfl, mixOk⟩
theorem cs70 (w0 : World) (hJ : J w0) : EnvCts Tryz.prog E70 w0 w0.heap.size := by
  refine ⟨fun c hc => ?_, fun c hc => ?_⟩
  · rcases List.mem_cons.1 hc with rfl | hc
    · exact fun w hb => all133 w (J_below hJ hb)
    rcases List.mem_cons.1 hc with rfl | hc
    · exact fun w hb => all134 w (J_below hJ hb)
    cases hc
  · cases hc
noncomputable def ct70 : Ct := { f := 70, ps := [.v true .ro ls46], rs := [(true, ls46)], shared := false, pre := fun (x : Sto) => pCloneStored x, F := fun (x : Sto) => mCloneStored x }
theorem law70 : ∀ x : Sto, pCloneStored x → s_impl_cloneStored x (fun r => r = mCloneStored x) := fun x h => impl_cloneStored_ok x h
theorem all70 (w : World) (hJ : J w) : CtAt Tryz.prog ct70 w :=
  ct_by ok70 (cs70 w hJ) Tryz.func70 (by kernel_rfl) (H := (hint [])) law70 (by kernel_rfl)
noncomputable def E49 : Env := { tt, eqs := [], cts := [ct70], deep := true }
theorem ok49 : EnvOk Tryz.prog E49 := ⟨ttOk, by kernel_rfl, rfl, mixOk⟩
theorem cs49 (w0 : World) (hJ : J w0) : EnvCts Tryz.prog E49 w0 w0.heap.size := by
  refine ⟨fun c hc => ?_, fun c hc => ?_⟩
  · rcases List.mem_cons.1 hc with rfl | hc
    · exact fun w hb => all70 w (J_below hJ hb)
    cases hc
  · cases hc
noncomputable def ct49 : Ct := { f := 49, ps := [.v true .ro ls28], rs := [(true, ls28)], shared := false, pre := fun (x : Shd) => pCloneShard x, F := fun (x : Shd) => mCloneShard x, deep := true }
theorem law49 : ∀ x : Shd, pCloneShard x → s_impl_cloneShard x (fun r => r = mCloneShard x) := fun x h => impl_cloneShard_ok x h
theorem all49 (w : World) (hJ : J w) : CtAt Tryz.prog ct49 w :=
  ct_by ok49 (cs49 w hJ) Tryz.func49 (by kernel_rfl) (H := (hint [(3, [.reg 3 95 [.str, .list 140 [.str, .str], .int .i64, .list 140 [.str, .str], .str, .int .i64, .int .i64, .bool] true true, .val 9 (.int .i64)])])) law49 (by kernel_rfl)
noncomputable def E81 : Env := { tt, eqs := [], cts := [ct139, ct49], deep := true }
theorem ok81 : EnvOk Tryz.prog E81 := ⟨ttOk, by kernel_rfl, rfl, mixOk⟩
theorem cs81 (w0 : World) (hJ : J w0) : EnvCts Tryz.prog E81 w0 w0.heap.size := by
  refine ⟨fun c hc => ?_, fun c hc => ?_⟩
  · rcases List.mem_cons.1 hc with rfl | hc
    · exact fun w hb => all139 w (J_below hJ hb)
    rcases List.mem_cons.1 hc with rfl | hc
    · exact fun w hb => all49 w (J_below hJ hb)
    cases hc
  · cases hc
noncomputable def ct81 : Ct := { f := 81, ps := [.v true .ro ls59], rs := [(true, ls59)], shared := false, pre := fun (x : Cch) => pCloneCache x, F := fun (x : Cch) => mCloneCache x, deep := true }
theorem law81 : ∀ x : Cch, pCloneCache x → s_impl_cloneCache x (fun r => r = mCloneCache x) := fun x h => impl_cloneCache_ok x h
theorem all81 (w : World) (hJ : J w) : CtAt Tryz.prog ct81 w :=
  ct_by ok81 (cs81 w hJ) Tryz.func81 (by kernel_rfl) (H := (hint [(3, [.val 13 (.int .i64), .breg 3 0 28 [.int .i64, .int .i64, .list 95 [.str, .list 140 [.str, .str], .int .i64, .list 140 [.str, .str], .str, .int .i64, .int .i64, .bool], .int .i64] true, .breg 3 1 127 [.str, .int .i64]])])) law81 (by kernel_rfl)
noncomputable def E110 : Env := { tt, eqs := [], cts := [] }
theorem ok110 : EnvOk Tryz.prog E110 := ⟨ttOk, by kernel_rfl, rfl, mixOk⟩
theorem cs110 (w0 : World) (hJ : J w0) : EnvCts Tryz.prog E110 w0 w0.heap.size := by
  refine ⟨fun c hc => ?_, fun c hc => ?_⟩
  · cases hc
  · cases hc
noncomputable def ct110 : Ct := { f := 110, ps := [.v false .ro ls3, .v false .ro ls3, .v false .ro ls3], rs := [(false, ls4)], shared := false, pre := fun (x : Int × Int × Int) => pIn x.1 x.2.1 x.2.2, F := fun (x : Int × Int × Int) => mIn x.1 x.2.1 x.2.2 }
theorem law110 : ∀ x : Int × Int × Int, pIn x.1 x.2.1 x.2.2 → s_impl_in x.1 x.2.1 x.2.2 (fun r => r = mIn x.1 x.2.1 x.2.2) := fun x _ => impl_in_ok x.1 x.2.1 x.2.2
theorem all110 (w : World) (hJ : J w) : CtAt Tryz.prog ct110 w :=
  ct_by ok110 (cs110 w hJ) Tryz.func110 (by kernel_rfl) (H := (hint [])) law110 (by kernel_rfl)
noncomputable def E120 : Env := { tt, eqs := [], cts := [ct110] }
theorem ok120 : EnvOk Tryz.prog E120 := ⟨ttOk, by kernel_rfl, rfl, mixOk⟩
theorem cs120 (w0 : World) (hJ : J w0) : EnvCts Tryz.prog E120 w0 w0.heap.size := by
  refine ⟨fun c hc => ?_, fun c hc => ?_⟩
  · rcases List.mem_cons.1 hc with rfl | hc
    · exact fun w hb => all110 w (J_below hJ hb)
    cases hc
  · cases hc
noncomputable def ct120 : Ct := { f := 120, ps := [.v false .ro ls3, .v false .ro ls3], rs := [(false, ls4)], shared := false, pre := fun (x : Int × Int) => pShardSizes x.1 x.2, F := fun (x : Int × Int) => mShardSizes x.1 x.2 }
theorem law120 : ∀ x : Int × Int, pShardSizes x.1 x.2 → s_impl_shardSizes x.1 x.2 (fun r => r = mShardSizes x.1 x.2) := fun x _ => impl_shardSizes_ok x.1 x.2
theorem all120 (w : World) (hJ : J w) : CtAt Tryz.prog ct120 w :=
  ct_by ok120 (cs120 w hJ) Tryz.func120 (by kernel_rfl) (H := (hint [])) law120 (by kernel_rfl)
noncomputable def E93 : Env := { tt, eqs := [], cts := [ct110] }
theorem ok93 : EnvOk Tryz.prog E93 := ⟨ttOk, by kernel_rfl, rfl, mixOk⟩
theorem cs93 (w0 : World) (hJ : J w0) : EnvCts Tryz.prog E93 w0 w0.heap.size := by
  refine ⟨fun c hc => ?_, fun c hc => ?_⟩
  · rcases List.mem_cons.1 hc with rfl | hc
    · exact fun w hb => all110 w (J_below hJ hb)
    cases hc
  · cases hc
noncomputable def ct93 : Ct := { f := 93, ps := [.v false .ro ls9], rs := [(false, ls4)], shared := false, pre := fun (x : S) => pUriOk x, F := fun (x : S) => mUriOk x }
theorem law93 : ∀ x : S, pUriOk x → s_impl_UriOk x (fun r => r = mUriOk x) := fun x h => impl_UriOk_ok x h
theorem all93 (w : World) (hJ : J w) : CtAt Tryz.prog ct93 w :=
  ct_by ok93 (cs93 w hJ) Tryz.func93 (by kernel_rfl) (H := (hint [(2, [.val 6 (.int .i64)])])) law93 (by kernel_rfl)
noncomputable def E224 : Env := { tt, eqs := [], cts := [] }
theorem ok224 : EnvOk Tryz.prog E224 := ⟨ttOk, by kernel_rfl, rfl, mixOk⟩
theorem cs224 (w0 : World) (hJ : J w0) : EnvCts Tryz.prog E224 w0 w0.heap.size := by
  refine ⟨fun c hc => ?_, fun c hc => ?_⟩
  · cases hc
  · cases hc
noncomputable def ct224 : Ct := { f := 224, ps := [.v false .ro ls5], rs := [(false, ls4)], shared := false, pre := fun (x : Int) => pIsLetterOrDigit x, F := fun (x : Int) => mIsLetterOrDigit x }
theorem law224 : ∀ x : Int, pIsLetterOrDigit x → s_impl_isLetterOrDigit x (fun r => r = mIsLetterOrDigit x) := fun x _ => impl_isLetterOrDigit_ok x
theorem all224 (w : World) (hJ : J w) : CtAt Tryz.prog ct224 w :=
  ct_by ok224 (cs224 w hJ) Tryz.func224 (by kernel_rfl) (H := (hint [])) law224 (by kernel_rfl)
noncomputable def ct225 : Ct := indexByteCt 225
theorem all225 (w : World) (hJ : J w) : CtAt Tryz.prog ct225 w := indexByte_ct ⟨_, Tryz.func225, by kernel_rfl, by kernel_rfl⟩ (fun s c => Tryz.strings_IndexByte s c w)
noncomputable def E210 : Env := { tt, eqs := [], cts := [ct224, ct225] }
theorem ok210 : EnvOk Tryz.prog E210 := ⟨ttOk, by kernel_rfl, rfl, mixOk⟩
theorem cs210 (w0 : World) (hJ : J w0) : EnvCts Tryz.prog E210 w0 w0.heap.size := by
  refine ⟨fun c hc => ?_, fun c hc => ?_⟩
  · rcases List.mem_cons.1 hc with rfl | hc
    · exact fun w hb => all224 w (J_below hJ hb)
    rcases List.mem_cons.1 hc with rfl | hc
    · exact fun w hb => all225 w (J_below hJ hb)
    cases hc
  · cases hc
noncomputable def ct210 : Ct := { f := 210, ps := [.v false .ro ls9], rs := [(false, ls4)], shared := false, pre := fun (x : S) => pIsTokenText x, F := fun (x : S) => mIsTokenText x }
theorem law210 : ∀ x : S, pIsTokenText x → s_impl_IsTokenText x (fun r => r = mIsTokenText x) := fun x h => impl_IsTokenText_ok x h
theorem all210 (w : World) (hJ : J w) : CtAt Tryz.prog ct210 w :=
  ct_by ok210 (cs210 w hJ) Tryz.func210 (by kernel_rfl) (H := (hint [(2, [.val 6 (.int .i64)])])) law210 (by kernel_rfl)
set_option maxRecDepth 100000 in
theorem lower_calls211 (s : ByteArray) (hs : s.size ≤ 1073741824) (w : World) : Calls Tryz.prog 211 #[.string s] w fun e w' => e = .returned (.string (mLower s)) ∧ Below w.heap.size w w' := by
  obtain ⟨W1, cap, hconv, hW1⟩ := low_new Tryz.prog 9 187 5 w s Tryz.underlying9 Tryz.underlying187 Tryz.underlying5
  go_enter Tryz.func211, Tryz.ntmps211
  go_wp2
  go_loopg [10] s.size (fun gg v10 wr => ∃ i : Nat, i + gg = s.size ∧ v10 = .int .i64 (i : Int) ∧ Hid (LowW w.heap.size s i w wr))
  case atStart => exact ⟨0, by omega, rfl, hW1⟩
  case round =>
    obtain ⟨i, hi, rfl, hW⟩ := hrel
    have hH := hW.out
    by_cases hlt : i < s.size
    · have hcz := hH.2 i hlt
      rw [if_neg (Nat.lt_irrefl i)] at hcz
      have hlb := low_byte (bs s)[i]!
      have hx : ((bs s)[i]!).toNat < 256 := UInt8.toNat_lt _
      generalize hxe : ((bs s)[i]!).toNat = x at *
      obtain ⟨hc, hz⟩ := hcz
      have d1 : ((i : Int) < (s.size : Int)) := by omega
      have d0 : (0 : Int) ≤ (i : Int) := by omega
      have HC := (show Hid (i < s.size ∧ LowW w.heap.size s i w wr ∧ ((bs s)[i]!).toNat = x) from ⟨hlt, hH, hxe⟩)
      have HL := (show Hid _ from hlb)
      clear hH hlb hW hxe hlt
      by_cases c1 : 65 ≤ x
      · by_cases c2 : x ≤ 90
        · have k1 : decide (65 ≤ (x : Int)) = true := decide_eq_true (by omega)
          have k2 : decide ((x : Int) ≤ 90) = true := decide_eq_true (by omega)
          go_wp2
          go_roundg (gk - 1)
          case measure => have := HC.out.1; omega
          case rel =>
            obtain ⟨hlt, hH, hxe⟩ := HC.out
            refine ⟨i + 1, by omega, by simp, hH.next hlt ?_⟩
            rw [← HL.out.1 ⟨c1, c2⟩, IntKind.wrap_u8, IntKind.wrap_u8]; omega
        · have k1 : decide (65 ≤ (x : Int)) = true := decide_eq_true (by omega)
          have k2 : decide ((x : Int) ≤ 90) = false := decide_eq_false (by omega)
          go_wp2
          go_roundg (gk - 1)
          case measure => have := HC.out.1; omega
          case rel =>
            obtain ⟨hlt, hH, hxe⟩ := HC.out
            exact ⟨i + 1, by omega, by simp, hH.skip hlt (HL.out.2 (fun h => c2 h.2))⟩
      · have k1 : decide (65 ≤ (x : Int)) = false := decide_eq_false (by omega)
        go_wp2
        go_roundg (gk - 1)
        case measure => have := HC.out.1; omega
        case rel =>
          obtain ⟨hlt, hH, hxe⟩ := HC.out
          exact ⟨i + 1, by omega, by simp, hH.skip hlt (HL.out.2 (fun h => c1 h.1))⟩
    · have hie : i = s.size := by omega
      subst hie
      have hb := low_end Tryz.prog 187 9 5 w.heap.size cap w wr s Tryz.underlying187 Tryz.underlying5 Tryz.underlying9 hH
      have HC := (show Hid (Below w.heap.size w wr) from hH.1)
      clear hH hW hlt
      go_wp2
      go_ret
      exact ⟨rfl, HC.out⟩
noncomputable def ct211 : Ct := lowerCt 211
theorem all211 (w : World) (hJ : J w) : CtAt Tryz.prog ct211 w := lower_ct ⟨_, Tryz.func211, by kernel_rfl, by kernel_rfl⟩ (fun s h => lower_calls211 s h w)
noncomputable def ct217 : Ct := trimLCt 217
theorem all217 (w : World) (hJ : J w) : CtAt Tryz.prog ct217 w := trimL_ct ⟨_, Tryz.func217, by kernel_rfl, by kernel_rfl⟩ (fun s cs h1 h2 h3 => Go.Proofs.Any.strings_Trim_laid Tryz.lays160 (by kernel_rfl) s cs w h1 h2 h3)
noncomputable def E201 : Env := { tt, eqs := [], cts := [ct217] }
theorem ok201 : EnvOk Tryz.prog E201 := ⟨ttOk, by kernel_rfl, rfl, mixOk⟩
theorem cs201 (w0 : World) (hJ : J w0) : EnvCts Tryz.prog E201 w0 w0.heap.size := by
  refine ⟨fun c hc => ?_, fun c hc => ?_⟩
  · rcases List.mem_cons.1 hc with rfl | hc
    · exact fun w hb => all217 w (J_below hJ hb)
    cases hc
  · cases hc
noncomputable def ct201 : Ct := { f := 201, ps := [.v false .ro ls9], rs := [(false, ls9)], shared := false, pre := fun (x : S) => pTrim x, F := fun (x : S) => mTrim x }
theorem law201 : ∀ x : S, pTrim x → s_impl_Trim x (fun r => r = mTrim x) := fun x h => impl_Trim_ok x h
theorem all201 (w : World) (hJ : J w) : CtAt Tryz.prog ct201 w :=
  ct_by ok201 (cs201 w hJ) Tryz.func201 (by kernel_rfl) (H := (hint [])) law201 (by kernel_rfl)
noncomputable def E212 : Env := { tt, eqs := [], cts := [ct201] }
theorem ok212 : EnvOk Tryz.prog E212 := ⟨ttOk, by kernel_rfl, rfl, mixOk⟩
theorem cs212 (w0 : World) (hJ : J w0) : EnvCts Tryz.prog E212 w0 w0.heap.size := by
  refine ⟨fun c hc => ?_, fun c hc => ?_⟩
  · rcases List.mem_cons.1 hc with rfl | hc
    · exact fun w hb => all201 w (J_below hJ hb)
    cases hc
  · cases hc
noncomputable def ct212 : Ct := { f := 212, ps := [.v false .ro ls9], rs := [(false, ls4)], shared := false, pre := fun (x : S) => pIsValueText x, F := fun (x : S) => mIsValueText x }
theorem law212 : ∀ x : S, pIsValueText x → s_impl_IsValueText x (fun r => r = mIsValueText x) := fun x h => impl_IsValueText_ok x h
theorem all212 (w : World) (hJ : J w) : CtAt Tryz.prog ct212 w :=
  ct_by ok212 (cs212 w hJ) Tryz.func212 (by kernel_rfl) (H := (hint [(2, [.val 6 (.int .i64)])])) law212 (by kernel_rfl)
noncomputable def E194 : Env := { tt, eqs := [], cts := [ct210, ct211, ct212] }
theorem ok194 : EnvOk Tryz.prog E194 := ⟨ttOk, by kernel_rfl, rfl, mixOk⟩
theorem cs194 (w0 : World) (hJ : J w0) : EnvCts Tryz.prog E194 w0 w0.heap.size := by
  refine ⟨fun c hc => ?_, fun c hc => ?_⟩
  · rcases List.mem_cons.1 hc with rfl | hc
    · exact fun w hb => all210 w (J_below hJ hb)
    rcases List.mem_cons.1 hc with rfl | hc
    · exact fun w hb => all211 w (J_below hJ hb)
    rcases List.mem_cons.1 hc with rfl | hc
    · exact fun w hb => all212 w (J_below hJ hb)
    cases hc
  · cases hc
noncomputable def ct194 : Ct := { f := 194, ps := [.v true .ro ls140], rs := [(false, ls4)], shared := false, pre := fun (x : Fld) => pFieldOk x, F := fun (x : Fld) => mFieldOk x }
theorem law194 : ∀ x : Fld, pFieldOk x → s_impl_fieldOk x (fun r => r = mFieldOk x) := fun x h => impl_fieldOk_ok x h
theorem all194 (w : World) (hJ : J w) : CtAt Tryz.prog ct194 w :=
  ct_by ok194 (cs194 w hJ) Tryz.func194 (by kernel_rfl) (H := (hint [])) law194 (by kernel_rfl)
noncomputable def E193 : Env := { tt, eqs := [], cts := [ct194] }
theorem ok193 : EnvOk Tryz.prog E193 := ⟨ttOk, by kernel_rfl, rfl, mixOk⟩
theorem cs193 (w0 : World) (hJ : J w0) : EnvCts Tryz.prog E193 w0 w0.heap.size := by
  refine ⟨fun c hc => ?_, fun c hc => ?_⟩
  · rcases List.mem_cons.1 hc with rfl | hc
    · exact fun w hb => all194 w (J_below hJ hb)
    cases hc
  · cases hc
noncomputable def ct193 : Ct := { f := 193, ps := [.v true .ro ls140], rs := [(false, ls4)], shared := false, pre := fun (x : Fld) => pFieldsOk_1 x, F := fun (x : Fld) => mFieldsOk_1 x }
theorem law193 : ∀ x : Fld, pFieldsOk_1 x → s_impl_FieldsOk_1 x (fun r => r = mFieldsOk_1 x) := fun x h => impl_FieldsOk_1_ok x h
theorem all193 (w : World) (hJ : J w) : CtAt Tryz.prog ct193 w :=
  ct_by ok193 (cs193 w hJ) Tryz.func193 (by kernel_rfl) (H := (hint [])) law193 (by kernel_rfl)
noncomputable def E209_193 : Env := { tt, eqs := [], cts := [ct193] }
theorem ok209_193 : EnvOk Tryz.prog E209_193 := ⟨ttOk, by kernel_rfl, rfl, mixOk⟩
theorem cs209_193 (w0 : World) (hJ : J w0) : EnvCts Tryz.prog E209_193 w0 w0.heap.size := by
  refine ⟨fun c hc => ?_, fun c hc => ?_⟩
  · rcases List.mem_cons.1 hc with rfl | hc
    · exact fun w hb => all193 w (J_below hJ hb)
    cases hc
  · cases hc
noncomputable def ct209_193 : Ct := { f := 209, ps := [.v false .ro ls42, .c 193 []], rs := [(false, ls3)], shared := false, pre := fun (x : (List Fld) × Unit) => pIndexFunc_FieldsOk_1 x.1 x.2, F := fun (x : (List Fld) × Unit) => mIndexFunc_FieldsOk_1 x.1 x.2 }
theorem law209_193 : ∀ x : (List Fld) × Unit, pIndexFunc_FieldsOk_1 x.1 x.2 → s_IndexFunc_FieldsOk_1 x.1 x.2 (fun r => r = mIndexFunc_FieldsOk_1 x.1 x.2) := fun x h => IndexFunc_FieldsOk_1_ok x.1 x.2 h
theorem all209_193 (w : World) (hJ : J w) : CtAt Tryz.prog ct209_193 w :=
  ct_by ok209_193 (cs209_193 w hJ) Tryz.func209 (by kernel_rfl) (H := (hint [(2, [.val 8 (.int .i64)])])) law209_193 (by kernel_rfl)
noncomputable def E192_193 : Env := { tt, eqs := [], cts := [ct209_193] }
theorem ok192_193 : EnvOk Tryz.prog E192_193 := ⟨ttOk, by kernel_rfl, rfl, mixOk⟩
theorem cs192_193 (w0 : World) (hJ : J w0) : EnvCts Tryz.prog E192_193 w0 w0.heap.size := by
  refine ⟨fun c hc => ?_, fun c hc => ?_⟩
  · rcases List.mem_cons.1 hc with rfl | hc
    · exact fun w hb => all209_193 w (J_below hJ hb)
    cases hc
  · cases hc
noncomputable def ct192_193 : Ct := { f := 192, ps := [.v false .ro ls42, .c 193 []], rs := [(false, ls4)], shared := false, pre := fun (x : (List Fld) × Unit) => pContainsFunc_FieldsOk_1 x.1 x.2, F := fun (x : (List Fld) × Unit) => mContainsFunc_FieldsOk_1 x.1 x.2 }
theorem law192_193 : ∀ x : (List Fld) × Unit, pContainsFunc_FieldsOk_1 x.1 x.2 → s_ContainsFunc_FieldsOk_1 x.1 x.2 (fun r => r = mContainsFunc_FieldsOk_1 x.1 x.2) := fun x h => ContainsFunc_FieldsOk_1_ok x.1 x.2 h
theorem all192_193 (w : World) (hJ : J w) : CtAt Tryz.prog ct192_193 w :=
  ct_by ok192_193 (cs192_193 w hJ) Tryz.func192 (by kernel_rfl) (H := (hint [])) law192_193 (by kernel_rfl)
noncomputable def E174 : Env := { tt, eqs := [], cts := [ct192_193] }
theorem ok174 : EnvOk Tryz.prog E174 := ⟨ttOk, by kernel_rfl, rfl, mixOk⟩
theorem cs174 (w0 : World) (hJ : J w0) : EnvCts Tryz.prog E174 w0 w0.heap.size := by
  refine ⟨fun c hc => ?_, fun c hc => ?_⟩
  · rcases List.mem_cons.1 hc with rfl | hc
    · exact fun w hb => all192_193 w (J_below hJ hb)
    cases hc
  · cases hc
noncomputable def ct174 : Ct := { f := 174, ps := [.v false .ro ls42], rs := [(false, ls4)], shared := false, pre := fun (x : (List Fld)) => pFieldsOk x, F := fun (x : (List Fld)) => mFieldsOk x }
theorem law174 : ∀ x : (List Fld), pFieldsOk x → s_impl_FieldsOk x (fun r => r = mFieldsOk x) := fun x h => impl_FieldsOk_ok x h
theorem all174 (w : World) (hJ : J w) : CtAt Tryz.prog ct174 w :=
  ct_by ok174 (cs174 w hJ) Tryz.func174 (by kernel_rfl) (H := (hint [])) law174 (by kernel_rfl)
noncomputable def ct198 : Ct := joinCt 9 198
theorem all198 (w : World) (hJ : J w) : CtAt Tryz.prog ct198 w := join_ct ⟨_, Tryz.func198, by kernel_rfl, by kernel_rfl⟩ (fun a c sep => Tryz.strings_Join_none a c sep w) (fun bk o c xs sep h1 h2 h3 h4 h5 => Tryz.strings_Join bk o c xs sep w h1 h2 h3 h4 h5)
noncomputable def E181 : Env := { tt, eqs := [], cts := [ct198] }
theorem ok181 : EnvOk Tryz.prog E181 := ⟨ttOk, by kernel_rfl, rfl, mixOk⟩
theorem cs181 (w0 : World) (hJ : J w0) : EnvCts Tryz.prog E181 w0 w0.heap.size := by
  refine ⟨fun c hc => ?_, fun c hc => ?_⟩
  · rcases List.mem_cons.1 hc with rfl | hc
    · exact fun w hb => all198 w (J_below hJ hb)
    cases hc
  · cases hc
noncomputable def ct181 : Ct := { f := 181, ps := [.v false .ro ls42, .v false .ro ls9], rs := [(false, ls9), (false, ls4)], shared := false, pre := fun (x : (List Fld) × S) => pFieldGet x.1 x.2, F := fun (x : (List Fld) × S) => mFieldGet x.1 x.2 }
theorem law181 : ∀ x : (List Fld) × S, pFieldGet x.1 x.2 → s_impl_FieldGet x.1 x.2 (fun r => r = mFieldGet x.1 x.2) := fun x h => impl_FieldGet_ok x.1 x.2 h
theorem all181 (w : World) (hJ : J w) : CtAt Tryz.prog ct181 w :=
  ct_by ok181 (cs181 w hJ) Tryz.func181 (by kernel_rfl) (H := (hint [(3, [.reg 6 9 [.str] true, .val 12 (.int .i64)])])) law181 (by kernel_rfl)
noncomputable def E195 : Env := { tt, eqs := [], cts := [ct181] }
theorem ok195 : EnvOk Tryz.prog E195 := ⟨ttOk, by kernel_rfl, rfl, mixOk⟩
theorem cs195 (w0 : World) (hJ : J w0) : EnvCts Tryz.prog E195 w0 w0.heap.size := by
  refine ⟨fun c hc => ?_, fun c hc => ?_⟩
  · rcases List.mem_cons.1 hc with rfl | hc
    · exact fun w hb => all181 w (J_below hJ hb)
    cases hc
  · cases hc
noncomputable def ct195 : Ct := { f := 195, ps := [.v false .ro ls42, .v false .ro ls9], rs := [(false, ls4)], shared := false, pre := fun (x : (List Fld) × S) => pHasField x.1 x.2, F := fun (x : (List Fld) × S) => mHasField x.1 x.2 }
theorem law195 : ∀ x : (List Fld) × S, pHasField x.1 x.2 → s_impl_hasField x.1 x.2 (fun r => r = mHasField x.1 x.2) := fun x h => impl_hasField_ok x.1 x.2 h
theorem all195 (w : World) (hJ : J w) : CtAt Tryz.prog ct195 w :=
  ct_by ok195 (cs195 w hJ) Tryz.func195 (by kernel_rfl) (H := (hint [])) law195 (by kernel_rfl)
noncomputable def E175 : Env := { tt, eqs := [], cts := [ct195] }
theorem ok175 : EnvOk Tryz.prog E175 := ⟨ttOk, by kernel_rfl, rfl, mixOk⟩
theorem cs175 (w0 : World) (hJ : J w0) : EnvCts Tryz.prog E175 w0 w0.heap.size := by
  refine ⟨fun c hc => ?_, fun c hc => ?_⟩
  · rcases List.mem_cons.1 hc with rfl | hc
    · exact fun w hb => all195 w (J_below hJ hb)
    cases hc
  · cases hc
noncomputable def ct175 : Ct := { f := 175, ps := [.v false .ro ls42], rs := [(false, ls4)], shared := false, pre := fun (x : (List Fld)) => pBodyFields x, F := fun (x : (List Fld)) => mBodyFields x }
theorem law175 : ∀ x : (List Fld), pBodyFields x → s_impl_bodyFields x (fun r => r = mBodyFields x) := fun x h => impl_bodyFields_ok x h
theorem all175 (w : World) (hJ : J w) : CtAt Tryz.prog ct175 w :=
  ct_by ok175 (cs175 w hJ) Tryz.func175 (by kernel_rfl) (H := (hint [])) law175 (by kernel_rfl)
noncomputable def E156 : Env := { tt, eqs := [], cts := [ct174, ct175] }
theorem ok156 : EnvOk Tryz.prog E156 := ⟨ttOk, by kernel_rfl, rfl, mixOk⟩
theorem cs156 (w0 : World) (hJ : J w0) : EnvCts Tryz.prog E156 w0 w0.heap.size := by
  refine ⟨fun c hc => ?_, fun c hc => ?_⟩
  · rcases List.mem_cons.1 hc with rfl | hc
    · exact fun w hb => all174 w (J_below hJ hb)
    rcases List.mem_cons.1 hc with rfl | hc
    · exact fun w hb => all175 w (J_below hJ hb)
    cases hc
  · cases hc
noncomputable def ct156 : Ct := { f := 156, ps := [.v false .ro ls42], rs := [(false, ls4)], shared := false, pre := fun (x : (List Fld)) => pOwnFields x, F := fun (x : (List Fld)) => mOwnFields x }
theorem law156 : ∀ x : (List Fld), pOwnFields x → s_impl_ownFields x (fun r => r = mOwnFields x) := fun x h => impl_ownFields_ok x h
theorem all156 (w : World) (hJ : J w) : CtAt Tryz.prog ct156 w :=
  ct_by ok156 (cs156 w hJ) Tryz.func156 (by kernel_rfl) (H := (hint [])) law156 (by kernel_rfl)
noncomputable def E163 : Env := { tt, eqs := [], cts := [] }
theorem ok163 : EnvOk Tryz.prog E163 := ⟨ttOk, by kernel_rfl, rfl, mixOk⟩
theorem cs163 (w0 : World) (hJ : J w0) : EnvCts Tryz.prog E163 w0 w0.heap.size := by
  refine ⟨fun c hc => ?_, fun c hc => ?_⟩
  · cases hc
  · cases hc
noncomputable def ct163 : Ct := { f := 163, ps := [.v false .ro ls3], rs := [(false, ls4)], shared := false, pre := fun (x : Int) => pBodiless x, F := fun (x : Int) => mBodiless x }
theorem law163 : ∀ x : Int, pBodiless x → s_impl_bodiless x (fun r => r = mBodiless x) := fun x _ => impl_bodiless_ok x
theorem all163 (w : World) (hJ : J w) : CtAt Tryz.prog ct163 w :=
  ct_by ok163 (cs163 w hJ) Tryz.func163 (by kernel_rfl) (H := (hint [])) law163 (by kernel_rfl)
noncomputable def E131 : Env := { tt, eqs := [], cts := [ct110, ct156, ct163] }
theorem ok131 : EnvOk Tryz.prog E131 := ⟨ttOk, by kernel_rfl, rfl, mixOk⟩
theorem cs131 (w0 : World) (hJ : J w0) : EnvCts Tryz.prog E131 w0 w0.heap.size := by
  refine ⟨fun c hc => ?_, fun c hc => ?_⟩
  · rcases List.mem_cons.1 hc with rfl | hc
    · exact fun w hb => all110 w (J_below hJ hb)
    rcases List.mem_cons.1 hc with rfl | hc
    · exact fun w hb => all156 w (J_below hJ hb)
    rcases List.mem_cons.1 hc with rfl | hc
    · exact fun w hb => all163 w (J_below hJ hb)
    cases hc
  · cases hc
noncomputable def ct131 : Ct := { f := 131, ps := [.v true .ro ls44], rs := [(false, ls4)], shared := false, pre := fun (x : Rsp) => pResponseOk x, F := fun (x : Rsp) => mResponseOk x }
theorem law131 : ∀ x : Rsp, pResponseOk x → s_impl_ResponseOk x (fun r => r = mResponseOk x) := fun x h => impl_ResponseOk_ok x h
theorem all131 (w : World) (hJ : J w) : CtAt Tryz.prog ct131 w :=
  ct_by ok131 (cs131 w hJ) Tryz.func131 (by kernel_rfl) (H := (hint [])) law131 (by kernel_rfl)
noncomputable def E65 : Env := { tt, eqs := [], cts := [ct93, ct131, ct110] }
theorem ok65 : EnvOk Tryz.prog E65 := ⟨ttOk, by kernel_rfl, rfl, mixOk⟩
theorem cs65 (w0 : World) (hJ : J w0) : EnvCts Tryz.prog E65 w0 w0.heap.size := by
  refine ⟨fun c hc => ?_, fun c hc => ?_⟩
  · rcases List.mem_cons.1 hc with rfl | hc
    · exact fun w hb => all93 w (J_below hJ hb)
    rcases List.mem_cons.1 hc with rfl | hc
    · exact fun w hb => all131 w (J_below hJ hb)
    rcases List.mem_cons.1 hc with rfl | hc
    · exact fun w hb => all110 w (J_below hJ hb)
    cases hc
  · cases hc
noncomputable def ct65 : Ct := { f := 65, ps := [.v true .ro ls46], rs := [(false, ls4)], shared := false, pre := fun (x : Sto) => pStoredOk x, F := fun (x : Sto) => mStoredOk x }
theorem law65 : ∀ x : Sto, pStoredOk x → s_impl_StoredOk x (fun r => r = mStoredOk x) := fun x h => impl_StoredOk_ok x h
theorem all65 (w : World) (hJ : J w) : CtAt Tryz.prog ct65 w :=
  ct_by ok65 (cs65 w hJ) Tryz.func65 (by kernel_rfl) (H := (hint [])) law65 (by kernel_rfl)
noncomputable def E164 : Env := { tt, eqs := [140], cts := [] }
theorem ok164 : EnvOk Tryz.prog E164 := ⟨ttOk, by kernel_rfl, rfl, mixOk⟩
theorem cs164 (w0 : World) (hJ : J w0) : EnvCts Tryz.prog E164 w0 w0.heap.size := by
  refine ⟨fun c hc => ?_, fun c hc => ?_⟩
  · cases hc
  · cases hc
noncomputable def ct164 : Ct := { f := 164, ps := [.v false .ro ls42, .v false .ro ls42], rs := [(false, ls4)], shared := false, pre := fun (x : (List Fld) × (List Fld)) => pEqual_Field x.1 x.2, F := fun (x : (List Fld) × (List Fld)) => mEqual_Field x.1 x.2 }
theorem law164 : ∀ x : (List Fld) × (List Fld), pEqual_Field x.1 x.2 → s_slices_Equal_Field x.1 x.2 (fun r => r = mEqual_Field x.1 x.2) := fun x h => slices_Equal_Field_ok x.1 x.2 h
theorem all164 (w : World) (hJ : J w) : CtAt Tryz.prog ct164 w :=
  ct_by ok164 (cs164 w hJ) Tryz.func164 (by kernel_rfl) (H := (hint [(4, [.val 13 (.int .i64)])])) law164 (by kernel_rfl)
noncomputable def E132 : Env := { tt, eqs := [], cts := [ct164] }
theorem ok132 : EnvOk Tryz.prog E132 := ⟨ttOk, by kernel_rfl, rfl, mixOk⟩
theorem cs132 (w0 : World) (hJ : J w0) : EnvCts Tryz.prog E132 w0 w0.heap.size := by
  refine ⟨fun c hc => ?_, fun c hc => ?_⟩
  · rcases List.mem_cons.1 hc with rfl | hc
    · exact fun w hb => all164 w (J_below hJ hb)
    cases hc
  · cases hc
noncomputable def ct132 : Ct := { f := 132, ps := [.v false .ro ls42, .v false .ro ls42], rs := [(false, ls4)], shared := false, pre := fun (x : (List Fld) × (List Fld)) => pSameFields x.1 x.2, F := fun (x : (List Fld) × (List Fld)) => mSameFields x.1 x.2 }
theorem law132 : ∀ x : (List Fld) × (List Fld), pSameFields x.1 x.2 → s_impl_SameFields x.1 x.2 (fun r => r = mSameFields x.1 x.2) := fun x h => impl_SameFields_ok x.1 x.2 h
theorem all132 (w : World) (hJ : J w) : CtAt Tryz.prog ct132 w :=
  ct_by ok132 (cs132 w hJ) Tryz.func132 (by kernel_rfl) (H := (hint [])) law132 (by kernel_rfl)
noncomputable def E67 : Env := { tt, eqs := [], cts := [ct132] }
theorem ok67 : EnvOk Tryz.prog E67 := ⟨ttOk, by kernel_rfl, rfl, mixOk⟩
theorem cs67 (w0 : World) (hJ : J w0) : EnvCts Tryz.prog E67 w0 w0.heap.size := by
  refine ⟨fun c hc => ?_, fun c hc => ?_⟩
  · rcases List.mem_cons.1 hc with rfl | hc
    · exact fun w hb => all132 w (J_below hJ hb)
    cases hc
  · cases hc
noncomputable def ct67 : Ct := { f := 67, ps := [.v true .ro ls46, .v true .ro ls46], rs := [(false, ls4)], shared := false, pre := fun (x : Sto × Sto) => pStandAlike x.1 x.2, F := fun (x : Sto × Sto) => mStandAlike x.1 x.2 }
theorem law67 : ∀ x : Sto × Sto, pStandAlike x.1 x.2 → s_impl_standAlike x.1 x.2 (fun r => r = mStandAlike x.1 x.2) := fun x h => impl_standAlike_ok x.1 x.2 h
theorem all67 (w : World) (hJ : J w) : CtAt Tryz.prog ct67 w :=
  ct_by ok67 (cs67 w hJ) Tryz.func67 (by kernel_rfl) (H := (hint [])) law67 (by kernel_rfl)
noncomputable def E122 : Env := { tt, eqs := [], cts := [ct67] }
theorem ok122 : EnvOk Tryz.prog E122 := ⟨ttOk, by kernel_rfl, rfl, mixOk⟩
theorem cs122 (w0 : World) (hJ : J w0) : EnvCts Tryz.prog E122 w0 w0.heap.size := by
  refine ⟨fun c hc => ?_, fun c hc => ?_⟩
  · rcases List.mem_cons.1 hc with rfl | hc
    · exact fun w hb => all67 w (J_below hJ hb)
    cases hc
  · cases hc
noncomputable def ct122 : Ct := { f := 122, ps := [.v true .ro ls95, .p false ls95], rs := [(false, ls4)], shared := false, pre := fun (x : Slt × Slt) => pShardOk_1 x.1 x.2, F := fun (x : Slt × Slt) => mShardOk_1 x.1 x.2 }
theorem law122 : ∀ x : Slt × Slt, pShardOk_1 x.1 x.2 → s_impl_ShardOk_1 x.1 x.2 (fun r => r = mShardOk_1 x.1 x.2) := fun x h => impl_ShardOk_1_ok x.1 x.2 h
theorem all122 (w : World) (hJ : J w) : CtAt Tryz.prog ct122 w :=
  ct_by ok122 (cs122 w hJ) Tryz.func122 (by kernel_rfl) (H := (hint [])) law122 (by kernel_rfl)
noncomputable def E161_122 : Env := { tt, eqs := [], cts := [ct122] }
theorem ok161_122 : EnvOk Tryz.prog E161_122 := ⟨ttOk, by kernel_rfl, rfl, mixOk⟩
theorem cs161_122 (w0 : World) (hJ : J w0) : EnvCts Tryz.prog E161_122 w0 w0.heap.size := by
  refine ⟨fun c hc => ?_, fun c hc => ?_⟩
  · rcases List.mem_cons.1 hc with rfl | hc
    · exact fun w hb => all122 w (J_below hJ hb)
    cases hc
  · cases hc
noncomputable def ct161_122 : Ct := { f := 161, ps := [.v false .ro ls26, .c 122 [ls95]], rs := [(false, ls3)], shared := false, pre := fun (x : (List Slt) × Slt) => pIndexFunc_ShardOk_1 x.1 x.2, F := fun (x : (List Slt) × Slt) => mIndexFunc_ShardOk_1 x.1 x.2 }
theorem law161_122 : ∀ x : (List Slt) × Slt, pIndexFunc_ShardOk_1 x.1 x.2 → s_IndexFunc_ShardOk_1 x.1 x.2 (fun r => r = mIndexFunc_ShardOk_1 x.1 x.2) := fun x h => IndexFunc_ShardOk_1_ok x.1 x.2 h
theorem all161_122 (w : World) (hJ : J w) : CtAt Tryz.prog ct161_122 w :=
  ct_by ok161_122 (cs161_122 w hJ) Tryz.func161 (by kernel_rfl) (H := (hint [(2, [.val 8 (.int .i64)])])) law161_122 (by kernel_rfl)
noncomputable def E121_122 : Env := { tt, eqs := [], cts := [ct161_122] }
theorem ok121_122 : EnvOk Tryz.prog E121_122 := ⟨ttOk, by kernel_rfl, rfl, mixOk⟩
theorem cs121_122 (w0 : World) (hJ : J w0) : EnvCts Tryz.prog E121_122 w0 w0.heap.size := by
  refine ⟨fun c hc => ?_, fun c hc => ?_⟩
  · rcases List.mem_cons.1 hc with rfl | hc
    · exact fun w hb => all161_122 w (J_below hJ hb)
    cases hc
  · cases hc
noncomputable def ct121_122 : Ct := { f := 121, ps := [.v false .ro ls26, .c 122 [ls95]], rs := [(false, ls4)], shared := false, pre := fun (x : (List Slt) × Slt) => pContainsFunc_ShardOk_1 x.1 x.2, F := fun (x : (List Slt) × Slt) => mContainsFunc_ShardOk_1 x.1 x.2 }
theorem law121_122 : ∀ x : (List Slt) × Slt, pContainsFunc_ShardOk_1 x.1 x.2 → s_ContainsFunc_ShardOk_1 x.1 x.2 (fun r => r = mContainsFunc_ShardOk_1 x.1 x.2) := fun x h => ContainsFunc_ShardOk_1_ok x.1 x.2 h
theorem all121_122 (w : World) (hJ : J w) : CtAt Tryz.prog ct121_122 w :=
  ct_by ok121_122 (cs121_122 w hJ) Tryz.func121 (by kernel_rfl) (H := (hint [])) law121_122 (by kernel_rfl)
noncomputable def E68 : Env := { tt, eqs := [], cts := [] }
theorem ok68 : EnvOk Tryz.prog E68 := ⟨ttOk, by kernel_rfl, rfl, mixOk⟩
theorem cs68 (w0 : World) (hJ : J w0) : EnvCts Tryz.prog E68 w0 w0.heap.size := by
  refine ⟨fun c hc => ?_, fun c hc => ?_⟩
  · cases hc
  · cases hc
noncomputable def ct68 : Ct := { f := 68, ps := [.v false .ro ls26], rs := [(false, ls3)], shared := false, pre := fun (x : (List Slt)) => pBodies x, F := fun (x : (List Slt)) => mBodies x }
theorem law68 : ∀ x : (List Slt), pBodies x → s_impl_bodies x (fun r => r = mBodies x) := fun x h => impl_bodies_ok x h
theorem all68 (w : World) (hJ : J w) : CtAt Tryz.prog ct68 w :=
  ct_by ok68 (cs68 w hJ) Tryz.func68 (by kernel_rfl) (H := (hint [(3, [.val 3 (.int .i64), .val 8 (.int .i64)])])) law68 (by kernel_rfl)
noncomputable def E50 : Env := { tt, eqs := [], cts := [ct120, ct110, ct65, ct121_122, ct68] }
theorem ok50 : EnvOk Tryz.prog E50 := ⟨ttOk, by kernel_rfl, rfl, mixOk⟩
theorem cs50 (w0 : World) (hJ : J w0) : EnvCts Tryz.prog E50 w0 w0.heap.size := by
  refine ⟨fun c hc => ?_, fun c hc => ?_⟩
  · rcases List.mem_cons.1 hc with rfl | hc
    · exact fun w hb => all120 w (J_below hJ hb)
    rcases List.mem_cons.1 hc with rfl | hc
    · exact fun w hb => all110 w (J_below hJ hb)
    rcases List.mem_cons.1 hc with rfl | hc
    · exact fun w hb => all65 w (J_below hJ hb)
    rcases List.mem_cons.1 hc with rfl | hc
    · exact fun w hb => all121_122 w (J_below hJ hb)
    rcases List.mem_cons.1 hc with rfl | hc
    · exact fun w hb => all68 w (J_below hJ hb)
    cases hc
  · cases hc
noncomputable def ct50 : Ct := { f := 50, ps := [.v true .ro ls28], rs := [(false, ls4)], shared := false, pre := fun (x : Shd) => pShardOk x, F := fun (x : Shd) => mShardOk x }
theorem law50 : ∀ x : Shd, pShardOk x → s_impl_ShardOk x (fun r => r = mShardOk x) := fun x h => impl_ShardOk_ok x h
theorem all50 (w : World) (hJ : J w) : CtAt Tryz.prog ct50 w :=
  ct_by ok50 (cs50 w hJ) Tryz.func50 (by kernel_rfl) (H := (hint [(4, [.val 37 (.int .i64)])])) law50 (by kernel_rfl)
noncomputable def E141 : Env := { tt, eqs := [], cts := [] }
theorem ok141 : EnvOk Tryz.prog E141 := ⟨ttOk, by kernel_rfl, rfl, mixOk⟩
theorem cs141 (w0 : World) (hJ : J w0) : EnvCts Tryz.prog E141 w0 w0.heap.size := by
  refine ⟨fun c hc => ?_, fun c hc => ?_⟩
  · cases hc
  · cases hc
noncomputable def ct141 : Ct := { f := 141, ps := [.v false .ro ls9], rs := [(false, ls3)], shared := false, pre := fun (x : S) => pFnv x, F := fun (x : S) => mFnv x }
theorem law141 : ∀ x : S, pFnv x → s_impl_Fnv x (fun r => r = mFnv x) := fun x h => impl_Fnv_ok x h
theorem all141 (w : World) (hJ : J w) : CtAt Tryz.prog ct141 w :=
  ct_by ok141 (cs141 w hJ) Tryz.func141 (by kernel_rfl) (H := (hint [(3, [.val 3 (.int .i64), .val 7 (.int .i64)])])) law141 (by kernel_rfl)
noncomputable def E84 : Env := { tt, eqs := [], cts := [ct141] }
theorem ok84 : EnvOk Tryz.prog E84 := ⟨ttOk, by kernel_rfl, rfl, mixOk⟩
theorem cs84 (w0 : World) (hJ : J w0) : EnvCts Tryz.prog E84 w0 w0.heap.size := by
  refine ⟨fun c hc => ?_, fun c hc => ?_⟩
  · rcases List.mem_cons.1 hc with rfl | hc
    · exact fun w hb => all141 w (J_below hJ hb)
    cases hc
  · cases hc
noncomputable def ct84 : Ct := { f := 84, ps := [.v true .ro ls59, .v false .ro ls9], rs := [(false, ls3)], shared := false, pre := fun (x : Cch × S) => pShardOf x.1 x.2, F := fun (x : Cch × S) => mShardOf x.1 x.2 }
theorem law84 : ∀ x : Cch × S, pShardOf x.1 x.2 → s_impl_ShardOf x.1 x.2 (fun r => r = mShardOf x.1 x.2) := fun x h => impl_ShardOf_ok x.1 x.2 h
theorem all84 (w : World) (hJ : J w) : CtAt Tryz.prog ct84 w :=
  ct_by ok84 (cs84 w hJ) Tryz.func84 (by kernel_rfl) (H := (hint [])) law84 (by kernel_rfl)
noncomputable def E140 : Env := { tt, eqs := [], cts := [ct84] }
theorem ok140 : EnvOk Tryz.prog E140 := ⟨ttOk, by kernel_rfl, rfl, mixOk⟩
theorem cs140 (w0 : World) (hJ : J w0) : EnvCts Tryz.prog E140 w0 w0.heap.size := by
  refine ⟨fun c hc => ?_, fun c hc => ?_⟩
  · rcases List.mem_cons.1 hc with rfl | hc
    · exact fun w hb => all84 w (J_below hJ hb)
    cases hc
  · cases hc
noncomputable def ct140 : Ct := { f := 140, ps := [.v true .ro ls95, .p false ls59, .p false ls3], rs := [(false, ls4)], shared := false, pre := fun (x : Slt × Cch × Int) => pCacheOk_1 x.1 x.2.1 x.2.2, F := fun (x : Slt × Cch × Int) => mCacheOk_1 x.1 x.2.1 x.2.2 }
theorem law140 : ∀ x : Slt × Cch × Int, pCacheOk_1 x.1 x.2.1 x.2.2 → s_impl_CacheOk_1 x.1 x.2.1 x.2.2 (fun r => r = mCacheOk_1 x.1 x.2.1 x.2.2) := fun x h => impl_CacheOk_1_ok x.1 x.2.1 x.2.2 h
theorem all140 (w : World) (hJ : J w) : CtAt Tryz.prog ct140 w :=
  ct_by ok140 (cs140 w hJ) Tryz.func140 (by kernel_rfl) (H := (hint [])) law140 (by kernel_rfl)
noncomputable def E161_140 : Env := { tt, eqs := [], cts := [ct140] }
theorem ok161_140 : EnvOk Tryz.prog E161_140 := ⟨ttOk, by kernel_rfl, rfl, mixOk⟩
theorem cs161_140 (w0 : World) (hJ : J w0) : EnvCts Tryz.prog E161_140 w0 w0.heap.size := by
  refine ⟨fun c hc => ?_, fun c hc => ?_⟩
  · rcases List.mem_cons.1 hc with rfl | hc
    · exact fun w hb => all140 w (J_below hJ hb)
    cases hc
  · cases hc
noncomputable def ct161_140 : Ct := { f := 161, ps := [.v false .ro ls26, .c 140 [ls59, ls3]], rs := [(false, ls3)], shared := false, pre := fun (x : (List Slt) × (Cch × Int)) => pIndexFunc_CacheOk_1 x.1 x.2, F := fun (x : (List Slt) × (Cch × Int)) => mIndexFunc_CacheOk_1 x.1 x.2 }
theorem law161_140 : ∀ x : (List Slt) × (Cch × Int), pIndexFunc_CacheOk_1 x.1 x.2 → s_IndexFunc_CacheOk_1 x.1 x.2 (fun r => r = mIndexFunc_CacheOk_1 x.1 x.2) := fun x h => IndexFunc_CacheOk_1_ok x.1 x.2 h
theorem all161_140 (w : World) (hJ : J w) : CtAt Tryz.prog ct161_140 w :=
  ct_by ok161_140 (cs161_140 w hJ) Tryz.func161 (by kernel_rfl) (H := (hint [(2, [.val 8 (.int .i64)])])) law161_140 (by kernel_rfl)
noncomputable def E121_140 : Env := { tt, eqs := [], cts := [ct161_140] }
theorem ok121_140 : EnvOk Tryz.prog E121_140 := ⟨ttOk, by kernel_rfl, rfl, mixOk⟩
theorem cs121_140 (w0 : World) (hJ : J w0) : EnvCts Tryz.prog E121_140 w0 w0.heap.size := by
  refine ⟨fun c hc => ?_, fun c hc => ?_⟩
  · rcases List.mem_cons.1 hc with rfl | hc
    · exact fun w hb => all161_140 w (J_below hJ hb)
    cases hc
  · cases hc
noncomputable def ct121_140 : Ct := { f := 121, ps := [.v false .ro ls26, .c 140 [ls59, ls3]], rs := [(false, ls4)], shared := false, pre := fun (x : (List Slt) × (Cch × Int)) => pContainsFunc_CacheOk_1 x.1 x.2, F := fun (x : (List Slt) × (Cch × Int)) => mContainsFunc_CacheOk_1 x.1 x.2 }
theorem law121_140 : ∀ x : (List Slt) × (Cch × Int), pContainsFunc_CacheOk_1 x.1 x.2 → s_ContainsFunc_CacheOk_1 x.1 x.2 (fun r => r = mContainsFunc_CacheOk_1 x.1 x.2) := fun x h => ContainsFunc_CacheOk_1_ok x.1 x.2 h
theorem all121_140 (w : World) (hJ : J w) : CtAt Tryz.prog ct121_140 w :=
  ct_by ok121_140 (cs121_140 w hJ) Tryz.func121 (by kernel_rfl) (H := (hint [])) law121_140 (by kernel_rfl)
noncomputable def E82 : Env := { tt, eqs := [], cts := [ct110, ct50, ct121_140, ct93] }
theorem ok82 : EnvOk Tryz.prog E82 := ⟨ttOk, by kernel_rfl, rfl, mixOk⟩
theorem cs82 (w0 : World) (hJ : J w0) : EnvCts Tryz.prog E82 w0 w0.heap.size := by
  refine ⟨fun c hc => ?_, fun c hc => ?_⟩
  · rcases List.mem_cons.1 hc with rfl | hc
    · exact fun w hb => all110 w (J_below hJ hb)
    rcases List.mem_cons.1 hc with rfl | hc
    · exact fun w hb => all50 w (J_below hJ hb)
    rcases List.mem_cons.1 hc with rfl | hc
    · exact fun w hb => all121_140 w (J_below hJ hb)
    rcases List.mem_cons.1 hc with rfl | hc
    · exact fun w hb => all93 w (J_below hJ hb)
    cases hc
  · cases hc
noncomputable def ct82 : Ct := { f := 82, ps := [.v true .ro ls59], rs := [(false, ls4)], shared := false, pre := fun (x : Cch) => pCacheOk x, F := fun (x : Cch) => mCacheOk x }
theorem law82 : ∀ x : Cch, pCacheOk x → s_impl_CacheOk x (fun r => r = mCacheOk x) := fun x h => impl_CacheOk_ok x h
theorem all82 (w : World) (hJ : J w) : CtAt Tryz.prog ct82 w :=
  ct_by ok82 (cs82 w hJ) Tryz.func82 (by kernel_rfl) (H := (hint [(4, [.val 15 (.int .i64)]), (10, [.val 33 (.int .i64)])])) law82 (by kernel_rfl)
noncomputable def E83 : Env := { tt, eqs := [], cts := [] }
theorem ok83 : EnvOk Tryz.prog E83 := ⟨ttOk, by kernel_rfl, rfl, mixOk⟩
theorem cs83 (w0 : World) (hJ : J w0) : EnvCts Tryz.prog E83 w0 w0.heap.size := by
  refine ⟨fun c hc => ?_, fun c hc => ?_⟩
  · cases hc
  · cases hc
noncomputable def ct83 : Ct := { f := 83, ps := [.v true .ro ls59, .v false .ro ls9], rs := [(false, ls3)], shared := false, pre := fun (x : Cch × S) => pGenOf x.1 x.2, F := fun (x : Cch × S) => mGenOf x.1 x.2 }
theorem law83 : ∀ x : Cch × S, pGenOf x.1 x.2 → s_impl_GenOf x.1 x.2 (fun r => r = mGenOf x.1 x.2) := fun x h => impl_GenOf_ok x.1 x.2 h
theorem all83 (w : World) (hJ : J w) : CtAt Tryz.prog ct83 w :=
  ct_by ok83 (cs83 w hJ) Tryz.func83 (by kernel_rfl) (H := (hint [(2, [.val 10 (.int .i64)])])) law83 (by kernel_rfl)
noncomputable def E66 : Env := { tt, eqs := [], cts := [ct67] }
theorem ok66 : EnvOk Tryz.prog E66 := ⟨ttOk, by kernel_rfl, rfl, mixOk⟩
theorem cs66 (w0 : World) (hJ : J w0) : EnvCts Tryz.prog E66 w0 w0.heap.size := by
  refine ⟨fun c hc => ?_, fun c hc => ?_⟩
  · rcases List.mem_cons.1 hc with rfl | hc
    · exact fun w hb => all67 w (J_below hJ hb)
    cases hc
  · cases hc
noncomputable def ct66 : Ct := { f := 66, ps := [.v true .ro ls46, .p false ls46], rs := [(false, ls4)], shared := false, pre := fun (x : Sto × Sto) => pShardPut_1 x.1 x.2, F := fun (x : Sto × Sto) => mShardPut_1 x.1 x.2 }
theorem law66 : ∀ x : Sto × Sto, pShardPut_1 x.1 x.2 → s_impl_ShardPut_1 x.1 x.2 (fun r => r = mShardPut_1 x.1 x.2) := fun x h => impl_ShardPut_1_ok x.1 x.2 h
theorem all66 (w : World) (hJ : J w) : CtAt Tryz.prog ct66 w :=
  ct_by ok66 (cs66 w hJ) Tryz.func66 (by kernel_rfl) (H := (hint [])) law66 (by kernel_rfl)
noncomputable def ct162 : CtM := { f := 162, ps := [.v false .mv ls26, .v false .ro ls3, .v false .ro ls3], rs := [(false, ls26)], pre := fun (x : List Slt × Int × Int) => pDelete_Slot x.1 x.2.1 x.2.2, F := fun (x : List Slt × Int × Int) => mDelete_Slot x.1 x.2.1 x.2.2, W := fun (x : List Slt × Int × Int) => x, deep := true, q := true }
theorem all162 (m : Nat) (w : World) (hJ : Jn m w) : CtMAt Tryz.prog ct162 m w := CtMAt.ofTake (del_ct (fun xs i j => pDelete_Slot xs i j) (fun _ _ _ h => h) m w) rfl
noncomputable def E123 : Env := { tt, eqs := [], cts := [], ms := [ct162], deep := true }
theorem ok123 : EnvOk Tryz.prog E123 := ⟨ttOk, by kernel_rfl, rfl, mixOk⟩
theorem cs123 (m : Nat) (w0 : World) (hJ : Jn m w0) : EnvCts Tryz.prog E123 w0 m := by
  refine ⟨fun c hc => ?_, fun c hc => ?_⟩
  · cases hc
  · rcases List.mem_cons.1 hc with rfl | hc
    · exact fun w hb => all162 m w (Jn_below hJ hb)
    cases hc
noncomputable def ct123 : CtM := { f := 123, ps := [.p true ls28, .v false .ro ls3], rs := [], pre := fun (x : Shd × Int) => pTakeOut x.1 x.2, F := fun (x : Shd × Int) => mTakeOut x.1 x.2, W := fun (x : Shd × Int) => wTakeOut x.1 x.2, deep := true, q := true }
theorem law123 : ∀ x : Shd × Int, pTakeOut x.1 x.2 → s_impl_takeOut x.1 x.2 (fun r y => r = mTakeOut x.1 x.2 ∧ y = wTakeOut x.1 x.2) := fun x h => impl_takeOut_ok x.1 x.2 h
theorem all123 (m : Nat) (w : World) (hJ : Jn m w) : CtMAt Tryz.prog ct123 m w :=
  ctq_by ok123 (cs123 m w hJ) Tryz.func123 (by kernel_rfl) (H := (hint [])) law123 (by kernel_rfl)
noncomputable def E51_66 : Env := { tt, eqs := [], cts := [ct66], ms := [ct123], deep := true }
theorem ok51_66 : EnvOk Tryz.prog E51_66 := ⟨ttOk, by kernel_rfl, rfl, mixOk⟩
theorem cs51_66 (m : Nat) (w0 : World) (hJ : Jn m w0) : EnvCts Tryz.prog E51_66 w0 m := by
  refine ⟨fun c hc => ?_, fun c hc => ?_⟩
  · rcases List.mem_cons.1 hc with rfl | hc
    · exact fun w hb => all66 w (Jn_J (Jn_below hJ hb))
    cases hc
  · rcases List.mem_cons.1 hc with rfl | hc
    · exact fun w hb => all123 m w (Jn_below hJ hb)
    cases hc
noncomputable def ct51_66 : CtM := { f := 51, ps := [.p true ls28, .c 66 [ls46]], rs := [(false, ls3)], pre := fun (x : Shd × Sto) => ptakeAll_ShardPut_1 x.1 x.2, F := fun (x : Shd × Sto) => mtakeAll_ShardPut_1 x.1 x.2, W := fun (x : Shd × Sto) => wtakeAll_ShardPut_1 x.1 x.2, deep := true, q := true }
theorem law51_66 : ∀ x : Shd × Sto, ptakeAll_ShardPut_1 x.1 x.2 → s_takeAll_ShardPut_1 x.1 x.2 (fun r y => r = mtakeAll_ShardPut_1 x.1 x.2 ∧ y = wtakeAll_ShardPut_1 x.1 x.2) := fun x h => takeAll_ShardPut_1_ok x.1 x.2 h
theorem all51_66 (m : Nat) (w : World) (hJ : Jn m w) : CtMAt Tryz.prog ct51_66 m w :=
  ctq_by ok51_66 (cs51_66 m w hJ) Tryz.func51 (by kernel_rfl) (H := (hint [(3, [.val 5 (.int .i64), .val 6 (.int .i64), .box 0 0 (.int .i64), .box 0 1 (.int .i64), .breg 0 2 95 [.str, .list 140 [.str, .str], .int .i64, .list 140 [.str, .str], .str, .int .i64, .int .i64, .bool] true, .box 0 3 (.int .i64)])])) law51_66 (by kernel_rfl)
noncomputable def E69 : Env := { tt, eqs := [], cts := [], ms := [ct123], deep := true, ord := [(0, ([0, 1, 2, 3, 4, 5, 6, 7, 8, 9, 10], 10))] }
theorem ok69 : EnvOk Tryz.prog E69 := ⟨ttOk, by kernel_rfl, rfl, mixOk⟩
theorem cs69 (m : Nat) (w0 : World) (hJ : Jn m w0) : EnvCts Tryz.prog E69 w0 m := by
  refine ⟨fun c hc => ?_, fun c hc => ?_⟩
  · cases hc
  · rcases List.mem_cons.1 hc with rfl | hc
    · exact fun w hb => all123 m w (Jn_below hJ hb)
    cases hc
noncomputable def ct69 : CtM := { f := 69, ps := [.p true ls28], rs := [], pre := fun (x : Shd) => pEvict x, F := fun (x : Shd) => mEvict x, W := fun (x : Shd) => wEvict x, deep := true, q := true }
theorem law69 : ∀ x : Shd, pEvict x → s_impl_evict x (fun r y => r = mEvict x ∧ y = wEvict x) := fun x h => impl_evict_ok x h
theorem all69 (m : Nat) (w : World) (hJ : Jn m w) : CtMAt Tryz.prog ct69 m w :=
  ctq_by ok69 (cs69 m w hJ) Tryz.func69 (by kernel_rfl) (H := (hint [(0, [.box 0 0 (.int .i64), .box 0 1 (.int .i64), .breg 0 2 95 [.str, .list 140 [.str, .str], .int .i64, .list 140 [.str, .str], .str, .int .i64, .int .i64, .bool] true, .box 0 3 (.int .i64)])])) law69 (by kernel_rfl)
noncomputable def E18 : Env := { tt, eqs := [], cts := [ct49, ct50, ct65, ct68, ct70], ms := [ct51_66, ct69], deep := true }
theorem ok18 : EnvOk Tryz.prog E18 := ⟨ttOk, by kernel_rfl, rfl, mixOk⟩
theorem cs18 (w0 : World) (hJ : J w0) : EnvCts Tryz.prog E18 w0 w0.heap.size := by
  refine ⟨fun c hc => ?_, fun c hc => ?_⟩
  · rcases List.mem_cons.1 hc with rfl | hc
    · exact fun w hb => all49 w (J_below hJ hb)
    rcases List.mem_cons.1 hc with rfl | hc
    · exact fun w hb => all50 w (J_below hJ hb)
    rcases List.mem_cons.1 hc with rfl | hc
    · exact fun w hb => all65 w (J_below hJ hb)
    rcases List.mem_cons.1 hc with rfl | hc
    · exact fun w hb => all68 w (J_below hJ hb)
    rcases List.mem_cons.1 hc with rfl | hc
    · exact fun w hb => all70 w (J_below hJ hb)
    cases hc
  · rcases List.mem_cons.1 hc with rfl | hc
    · exact fun w hb => all51_66 w0.heap.size w (Jn_of hJ hb)
    rcases List.mem_cons.1 hc with rfl | hc
    · exact fun w hb => all69 w0.heap.size w (Jn_of hJ hb)
    cases hc
noncomputable def ct18 : Ct := { f := 18, ps := [.v true .ro ls28, .v true .ro ls46], rs := [(true, ls28), (false, ls3)], shared := false, pre := fun (x : Shd × Sto) => pShardPut x.1 x.2, F := fun (x : Shd × Sto) => mShardPut x.1 x.2, deep := true }
theorem law18 : ∀ x : Shd × Sto, pShardPut x.1 x.2 → s_impl_ShardPut x.1 x.2 (fun r => r = mShardPut x.1 x.2) := fun x h => impl_ShardPut_ok x.1 x.2 h
theorem all18 (w : World) (hJ : J w) : CtAt Tryz.prog ct18 w :=
  ct_by ok18 (cs18 w hJ) Tryz.func18 (by kernel_rfl) (H := (hint [(9, [.val 8 (.int .i64), .box 6 0 (.int .i64), .box 6 1 (.int .i64), .breg 6 2 95 [.str, .list 140 [.str, .str], .int .i64, .list 140 [.str, .str], .str, .int .i64, .int .i64, .bool] true, .box 6 3 (.int .i64)])])) law18 (by kernel_rfl)
noncomputable def E24 : Env := { tt, eqs := [], cts := [ct81, ct82, ct65, ct83, ct84, ct18], deep := true }
theorem ok24 : EnvOk Tryz.prog E24 := ⟨ttOk, by kernel_rfl, rfl, mixOk⟩
theorem cs24 (w0 : World) (hJ : J w0) : EnvCts Tryz.prog E24 w0 w0.heap.size := by
  refine ⟨fun c hc => ?_, fun c hc => ?_⟩
  · rcases List.mem_cons.1 hc with rfl | hc
    · exact fun w hb => all81 w (J_below hJ hb)
    rcases List.mem_cons.1 hc with rfl | hc
    · exact fun w hb => all82 w (J_below hJ hb)
    rcases List.mem_cons.1 hc with rfl | hc
    · exact fun w hb => all65 w (J_below hJ hb)
    rcases List.mem_cons.1 hc with rfl | hc
    · exact fun w hb => all83 w (J_below hJ hb)
    rcases List.mem_cons.1 hc with rfl | hc
    · exact fun w hb => all84 w (J_below hJ hb)
    rcases List.mem_cons.1 hc with rfl | hc
    · exact fun w hb => all18 w (J_below hJ hb)
    cases hc
  · cases hc
noncomputable def ct24 : Ct := { f := 24, ps := [.v true .ro ls59, .v true .ro ls46, .v false .ro ls3], rs := [(true, ls59), (false, ls4)], shared := false, pre := fun (x : Cch × Sto × Int) => pCacheFill x.1 x.2.1 x.2.2, F := fun (x : Cch × Sto × Int) => mCacheFill x.1 x.2.1 x.2.2, deep := true }
theorem law24 : ∀ x : Cch × Sto × Int, pCacheFill x.1 x.2.1 x.2.2 → s_impl_CacheFill x.1 x.2.1 x.2.2 (fun r => r = mCacheFill x.1 x.2.1 x.2.2) := fun x h => impl_CacheFill_ok x.1 x.2.1 x.2.2 h
theorem all24 (w : World) (hJ : J w) : CtAt Tryz.prog ct24 w :=
  ct_by ok24 (cs24 w hJ) Tryz.func24 (by kernel_rfl) (H := (hint [])) law24 (by kernel_rfl)
noncomputable def E135 : Env := { tt, eqs := [], cts := [] }
theorem ok135 : EnvOk Tryz.prog E135 := ⟨ttOk, by kernel_rfl, rfl, mixOk⟩
theorem cs135 (w0 : World) (hJ : J w0) : EnvCts Tryz.prog E135 w0 w0.heap.size := by
  refine ⟨fun c hc => ?_, fun c hc => ?_⟩
  · cases hc
  · cases hc
noncomputable def ct135 : Ct := { f := 135, ps := [.v true .ro ls140, .v true .ro ls140], rs := [(false, [.bool])], shared := false, pre := fun (q : Fld × Fld) => pEq q.1 q.2, F := fun (q : Fld × Fld) => eqF q.1 q.2 }
def st135 : List (EqStep Fld) := [.ne (fun (x y : Fld) => x.1 ≠ y.1), .ne (fun (x y : Fld) => x.2 ≠ y.2)]
def mk135 (a0 : S) (a1 : S) : Fld := (a0, a1)
theorem a135 (x y : Fld) : eqAll x y st135 ↔ x = y := by
  constructor
  · rintro ⟨h0, h1, -⟩
    have h0 : x.1 = y.1 := Classical.byContradiction h0
    have h1 : x.2 = y.2 := Classical.byContradiction h1
    show mk135 (x.1) (x.2) = mk135 (y.1) (y.2)
    rw [h0, h1]
    all_goals rfl
  · rintro rfl
    exact ⟨fun h => h rfl, fun h => h rfl, trivial⟩
theorem w135 (x y : Fld) (h : wd x) : eqFine x y st135 := by
  first | simp only [wd_pair] at h | skip
  simp only [eqFine, st135, wd_pair]
  all_goals simp only [h, and_self]
theorem law135 : ∀ q : Fld × Fld, pEq q.1 q.2 → eqSt q.1 q.2 st135 (fun r => r = eqF q.1 q.2) := fun q hq => eqSt_holds q.1 q.2 st135 (w135 q.1 q.2 hq) (eqF_iff.trans (a135 q.1 q.2).symm)
theorem all135 (w : World) (hJ : J w) : CtAt Tryz.prog ct135 w :=
  ct_by ok135 (cs135 w hJ) Tryz.func135 (by kernel_rfl) (H := (hint [])) law135 (by kernel_rfl)
noncomputable def E71 : Env := { tt, eqs := [], cts := [ct135] }
theorem ok71 : EnvOk Tryz.prog E71 := ⟨ttOk, by kernel_rfl, rfl, mixOk⟩
theorem cs71 (w0 : World) (hJ : J w0) : EnvCts Tryz.prog E71 w0 w0.heap.size := by
  refine ⟨fun c hc => ?_, fun c hc => ?_⟩
  · rcases List.mem_cons.1 hc with rfl | hc
    · exact fun w hb => all135 w (J_below hJ hb)
    cases hc
  · cases hc
noncomputable def ct71 : Ct := { f := 71, ps := [.v false .ro ls42, .v false .ro ls42], rs := [(false, [.bool])], shared := false, pre := fun (q : (List Fld) × (List Fld)) => pEq q.1 q.2, F := fun (q : (List Fld) × (List Fld)) => eqF q.1 q.2 }
theorem law71 : ∀ q : (List Fld) × (List Fld), pEq q.1 q.2 → eqS (α := Fld) Dft.dft (fun a b => pEq a b) (fun a b => eqF a b) q.1 q.2 (fun r => r = eqF q.1 q.2) := fun q hq => eqS_holds (α := Fld) Dft.dft (fun a b => pEq a b) (fun a b => eqF a b) q.1 q.2 hq.1 (fun i a _ h => hq.2 i a h) (fun _ _ => eqF_iff) eqF_iff
theorem all71 (w : World) (hJ : J w) : CtAt Tryz.prog ct71 w :=
  ct_by ok71 (cs71 w hJ) Tryz.func71 (by kernel_rfl) (H := (hint [(4, [.val 5 (.int .i64)])])) law71 (by kernel_rfl)
noncomputable def E37 : Env := { tt, eqs := [], cts := [ct71] }
theorem ok37 : EnvOk Tryz.prog E37 := ⟨ttOk, by kernel_rfl, rfl, mixOk⟩
theorem cs37 (w0 : World) (hJ : J w0) : EnvCts Tryz.prog E37 w0 w0.heap.size := by
  refine ⟨fun c hc => ?_, fun c hc => ?_⟩
  · rcases List.mem_cons.1 hc with rfl | hc
    · exact fun w hb => all71 w (J_below hJ hb)
    cases hc
  · cases hc
noncomputable def ct37 : Ct := { f := 37, ps := [.v true .ro ls44, .v true .ro ls44], rs := [(false, [.bool])], shared := false, pre := fun (q : Rsp × Rsp) => pEq q.1 q.2, F := fun (q : Rsp × Rsp) => eqF q.1 q.2 }
def st37 : List (EqStep Rsp) := [.ne (fun (x y : Rsp) => x.1 ≠ y.1), .call (fun (x _ : Rsp) => wd (x.2.1 : (List Fld))) (fun (x y : Rsp) => eqF (x.2.1 : (List Fld)) y.2.1), .ne (fun (x y : Rsp) => x.2.2 ≠ y.2.2)]
def mk37 (a0 : Int) (a1 : (List Fld)) (a2 : S) : Rsp := (a0, a1, a2)
theorem a37 (x y : Rsp) : eqAll x y st37 ↔ x = y := by
  constructor
  · rintro ⟨h0, h1, h2, -⟩
    have h0 : x.1 = y.1 := Classical.byContradiction h0
    have h1 : (x.2.1 : (List Fld)) = y.2.1 := eqF_iff.1 h1
    have h2 : x.2.2 = y.2.2 := Classical.byContradiction h2
    show mk37 (x.1) (x.2.1) (x.2.2) = mk37 (y.1) (y.2.1) (y.2.2)
    rw [h0, h1, h2]
    all_goals rfl
  · rintro rfl
    exact ⟨fun h => h rfl, eqF_iff.2 rfl, fun h => h rfl, trivial⟩
theorem w37 (x y : Rsp) (h : wd x) : eqFine x y st37 := by
  first | simp only [wd_pair] at h | skip
  simp only [eqFine, st37, wd_pair]
  all_goals simp only [h, and_self]
theorem law37 : ∀ q : Rsp × Rsp, pEq q.1 q.2 → eqSt q.1 q.2 st37 (fun r => r = eqF q.1 q.2) := fun q hq => eqSt_holds q.1 q.2 st37 (w37 q.1 q.2 hq) (eqF_iff.trans (a37 q.1 q.2).symm)
theorem all37 (w : World) (hJ : J w) : CtAt Tryz.prog ct37 w :=
  ct_by ok37 (cs37 w hJ) Tryz.func37 (by kernel_rfl) (H := (hint [])) law37 (by kernel_rfl)
noncomputable def E19 : Env := { tt, eqs := [], cts := [ct71, ct37] }
theorem ok19 : EnvOk Tryz.prog E19 := ⟨ttOk, by kernel_rfl, rfl, mixOk⟩
theorem cs19 (w0 : World) (hJ : J w0) : EnvCts Tryz.prog E19 w0 w0.heap.size := by
  refine ⟨fun c hc => ?_, fun c hc => ?_⟩
  · rcases List.mem_cons.1 hc with rfl | hc
    · exact fun w hb => all71 w (J_below hJ hb)
    rcases List.mem_cons.1 hc with rfl | hc
    · exact fun w hb => all37 w (J_below hJ hb)
    cases hc
  · cases hc
noncomputable def ct19 : Ct := { f := 19, ps := [.v true .ro ls46, .v true .ro ls46], rs := [(false, [.bool])], shared := false, pre := fun (q : Sto × Sto) => pEq q.1 q.2, F := fun (q : Sto × Sto) => eqF q.1 q.2 }
def st19 : List (EqStep Sto) := [.ne (fun (x y : Sto) => x.1 ≠ y.1), .call (fun (x _ : Sto) => wd (x.2.1 : (List Fld))) (fun (x y : Sto) => eqF (x.2.1 : (List Fld)) y.2.1), .call (fun (x _ : Sto) => wd ((x.2.2.1, x.2.2.2.1, x.2.2.2.2.1) : Rsp)) (fun (x y : Sto) => eqF ((x.2.2.1, x.2.2.2.1, x.2.2.2.2.1) : Rsp) (y.2.2.1, y.2.2.2.1, y.2.2.2.2.1)), .ne (fun (x y : Sto) => x.2.2.2.2.2.1 ≠ y.2.2.2.2.2.1), .ne (fun (x y : Sto) => x.2.2.2.2.2.2 ≠ y.2.2.2.2.2.2)]
def mk19 (a0 : S) (a1 : (List Fld)) (a2 : Rsp) (a3 : Int) (a4 : Int) : Sto := (a0, a1, a2.1, a2.2.1, a2.2.2, a3, a4)
theorem a19 (x y : Sto) : eqAll x y st19 ↔ x = y := by
  constructor
  · rintro ⟨h0, h1, h2, h3, h4, -⟩
    have h0 : x.1 = y.1 := Classical.byContradiction h0
    have h1 : (x.2.1 : (List Fld)) = y.2.1 := eqF_iff.1 h1
    have h2 : ((x.2.2.1, x.2.2.2.1, x.2.2.2.2.1) : Rsp) = (y.2.2.1, y.2.2.2.1, y.2.2.2.2.1) := eqF_iff.1 h2
    have h3 : x.2.2.2.2.2.1 = y.2.2.2.2.2.1 := Classical.byContradiction h3
    have h4 : x.2.2.2.2.2.2 = y.2.2.2.2.2.2 := Classical.byContradiction h4
    show mk19 (x.1) (x.2.1) ((x.2.2.1, x.2.2.2.1, x.2.2.2.2.1)) (x.2.2.2.2.2.1) (x.2.2.2.2.2.2) = mk19 (y.1) (y.2.1) ((y.2.2.1, y.2.2.2.1, y.2.2.2.2.1)) (y.2.2.2.2.2.1) (y.2.2.2.2.2.2)
    rw [h0, h1, h2, h3, h4]
    all_goals rfl
  · rintro rfl
    exact ⟨fun h => h rfl, eqF_iff.2 rfl, eqF_iff.2 rfl, fun h => h rfl, fun h => h rfl, trivial⟩
theorem w19 (x y : Sto) (h : wd x) : eqFine x y st19 := by
  first | simp only [wd_pair] at h | skip
  simp only [eqFine, st19, wd_pair]
  all_goals simp only [h, and_self]
theorem law19 : ∀ q : Sto × Sto, pEq q.1 q.2 → eqSt q.1 q.2 st19 (fun r => r = eqF q.1 q.2) := fun q hq => eqSt_holds q.1 q.2 st19 (w19 q.1 q.2 hq) (eqF_iff.trans (a19 q.1 q.2).symm)
theorem all19 (w : World) (hJ : J w) : CtAt Tryz.prog ct19 w :=
  ct_by ok19 (cs19 w hJ) Tryz.func19 (by kernel_rfl) (H := (hint [])) law19 (by kernel_rfl)
noncomputable def E124 : Env := { tt, eqs := [], cts := [ct19] }
theorem ok124 : EnvOk Tryz.prog E124 := ⟨ttOk, by kernel_rfl, rfl, mixOk⟩
theorem cs124 (w0 : World) (hJ : J w0) : EnvCts Tryz.prog E124 w0 w0.heap.size := by
  refine ⟨fun c hc => ?_, fun c hc => ?_⟩
  · rcases List.mem_cons.1 hc with rfl | hc
    · exact fun w hb => all19 w (J_below hJ hb)
    cases hc
  · cases hc
noncomputable def ct124 : Ct := { f := 124, ps := [.v true .ro ls95, .v true .ro ls95], rs := [(false, [.bool])], shared := false, pre := fun (q : Slt × Slt) => pEq q.1 q.2, F := fun (q : Slt × Slt) => eqF q.1 q.2 }
def st124 : List (EqStep Slt) := [.call (fun (x _ : Slt) => wd ((x.1, x.2.1, x.2.2.1, x.2.2.2.1, x.2.2.2.2.1, x.2.2.2.2.2.1, x.2.2.2.2.2.2.1) : Sto)) (fun (x y : Slt) => eqF ((x.1, x.2.1, x.2.2.1, x.2.2.2.1, x.2.2.2.2.1, x.2.2.2.2.2.1, x.2.2.2.2.2.2.1) : Sto) (y.1, y.2.1, y.2.2.1, y.2.2.2.1, y.2.2.2.2.1, y.2.2.2.2.2.1, y.2.2.2.2.2.2.1)), .ne (fun (x y : Slt) => x.2.2.2.2.2.2.2 ≠ y.2.2.2.2.2.2.2)]
def mk124 (a0 : Sto) (a1 : Bool) : Slt := (a0.1, a0.2.1, a0.2.2.1, a0.2.2.2.1, a0.2.2.2.2.1, a0.2.2.2.2.2.1, a0.2.2.2.2.2.2, a1)
theorem a124 (x y : Slt) : eqAll x y st124 ↔ x = y := by
  constructor
  · rintro ⟨h0, h1, -⟩
    have h0 : ((x.1, x.2.1, x.2.2.1, x.2.2.2.1, x.2.2.2.2.1, x.2.2.2.2.2.1, x.2.2.2.2.2.2.1) : Sto) = (y.1, y.2.1, y.2.2.1, y.2.2.2.1, y.2.2.2.2.1, y.2.2.2.2.2.1, y.2.2.2.2.2.2.1) := eqF_iff.1 h0
    have h1 : x.2.2.2.2.2.2.2 = y.2.2.2.2.2.2.2 := Classical.byContradiction h1
    show mk124 ((x.1, x.2.1, x.2.2.1, x.2.2.2.1, x.2.2.2.2.1, x.2.2.2.2.2.1, x.2.2.2.2.2.2.1)) (x.2.2.2.2.2.2.2) = mk124 ((y.1, y.2.1, y.2.2.1, y.2.2.2.1, y.2.2.2.2.1, y.2.2.2.2.2.1, y.2.2.2.2.2.2.1)) (y.2.2.2.2.2.2.2)
    rw [h0, h1]
    all_goals rfl
  · rintro rfl
    exact ⟨eqF_iff.2 rfl, fun h => h rfl, trivial⟩
theorem w124 (x y : Slt) (h : wd x) : eqFine x y st124 := by
  first | simp only [wd_pair] at h | skip
  simp only [eqFine, st124, wd_pair]
  all_goals simp only [h, and_self]
theorem law124 : ∀ q : Slt × Slt, pEq q.1 q.2 → eqSt q.1 q.2 st124 (fun r => r = eqF q.1 q.2) := fun q hq => eqSt_holds q.1 q.2 st124 (w124 q.1 q.2 hq) (eqF_iff.trans (a124 q.1 q.2).symm)
theorem all124 (w : World) (hJ : J w) : CtAt Tryz.prog ct124 w :=
  ct_by ok124 (cs124 w hJ) Tryz.func124 (by kernel_rfl) (H := (hint [])) law124 (by kernel_rfl)
noncomputable def E53 : Env := { tt, eqs := [], cts := [ct124] }
theorem ok53 : EnvOk Tryz.prog E53 := ⟨ttOk, by kernel_rfl, rfl, mixOk⟩
theorem cs53 (w0 : World) (hJ : J w0) : EnvCts Tryz.prog E53 w0 w0.heap.size := by
  refine ⟨fun c hc => ?_, fun c hc => ?_⟩
  · rcases List.mem_cons.1 hc with rfl | hc
    · exact fun w hb => all124 w (J_below hJ hb)
    cases hc
  · cases hc
noncomputable def ct53 : Ct := { f := 53, ps := [.v false .ro ls26, .v false .ro ls26], rs := [(false, [.bool])], shared := false, pre := fun (q : (List Slt) × (List Slt)) => pEq q.1 q.2, F := fun (q : (List Slt) × (List Slt)) => eqF q.1 q.2 }
theorem law53 : ∀ q : (List Slt) × (List Slt), pEq q.1 q.2 → eqS (α := Slt) Dft.dft (fun a b => pEq a b) (fun a b => eqF a b) q.1 q.2 (fun r => r = eqF q.1 q.2) := fun q hq => eqS_holds (α := Slt) Dft.dft (fun a b => pEq a b) (fun a b => eqF a b) q.1 q.2 hq.1 (fun i a _ h => hq.2 i a h) (fun _ _ => eqF_iff) eqF_iff
theorem all53 (w : World) (hJ : J w) : CtAt Tryz.prog ct53 w :=
  ct_by ok53 (cs53 w hJ) Tryz.func53 (by kernel_rfl) (H := (hint [(4, [.val 5 (.int .i64)])])) law53 (by kernel_rfl)
noncomputable def E12 : Env := { tt, eqs := [], cts := [ct53] }
theorem ok12 : EnvOk Tryz.prog E12 := ⟨ttOk, by kernel_rfl, rfl, mixOk⟩
theorem cs12 (w0 : World) (hJ : J w0) : EnvCts Tryz.prog E12 w0 w0.heap.size := by
  refine ⟨fun c hc => ?_, fun c hc => ?_⟩
  · rcases List.mem_cons.1 hc with rfl | hc
    · exact fun w hb => all53 w (J_below hJ hb)
    cases hc
  · cases hc
noncomputable def ct12 : Ct := { f := 12, ps := [.v true .ro ls28, .v true .ro ls28], rs := [(false, [.bool])], shared := false, pre := fun (q : Shd × Shd) => pEq q.1 q.2, F := fun (q : Shd × Shd) => eqF q.1 q.2 }
def st12 : List (EqStep Shd) := [.ne (fun (x y : Shd) => x.1 ≠ y.1), .ne (fun (x y : Shd) => x.2.1 ≠ y.2.1), .call (fun (x _ : Shd) => wd (x.2.2.1 : (List Slt))) (fun (x y : Shd) => eqF (x.2.2.1 : (List Slt)) y.2.2.1), .ne (fun (x y : Shd) => x.2.2.2 ≠ y.2.2.2)]
def mk12 (a0 : Int) (a1 : Int) (a2 : (List Slt)) (a3 : Int) : Shd := (a0, a1, a2, a3)
theorem a12 (x y : Shd) : eqAll x y st12 ↔ x = y := by
  constructor
  · rintro ⟨h0, h1, h2, h3, -⟩
    have h0 : x.1 = y.1 := Classical.byContradiction h0
    have h1 : x.2.1 = y.2.1 := Classical.byContradiction h1
    have h2 : (x.2.2.1 : (List Slt)) = y.2.2.1 := eqF_iff.1 h2
    have h3 : x.2.2.2 = y.2.2.2 := Classical.byContradiction h3
    show mk12 (x.1) (x.2.1) (x.2.2.1) (x.2.2.2) = mk12 (y.1) (y.2.1) (y.2.2.1) (y.2.2.2)
    rw [h0, h1, h2, h3]
    all_goals rfl
  · rintro rfl
    exact ⟨fun h => h rfl, fun h => h rfl, eqF_iff.2 rfl, fun h => h rfl, trivial⟩
theorem w12 (x y : Shd) (h : wd x) : eqFine x y st12 := by
  first | simp only [wd_pair] at h | skip
  simp only [eqFine, st12, wd_pair]
  all_goals simp only [h, and_self]
theorem law12 : ∀ q : Shd × Shd, pEq q.1 q.2 → eqSt q.1 q.2 st12 (fun r => r = eqF q.1 q.2) := fun q hq => eqSt_holds q.1 q.2 st12 (w12 q.1 q.2 hq) (eqF_iff.trans (a12 q.1 q.2).symm)
theorem all12 (w : World) (hJ : J w) : CtAt Tryz.prog ct12 w :=
  ct_by ok12 (cs12 w hJ) Tryz.func12 (by kernel_rfl) (H := (hint [])) law12 (by kernel_rfl)
noncomputable def E85 : Env := { tt, eqs := [], cts := [ct12] }
theorem ok85 : EnvOk Tryz.prog E85 := ⟨ttOk, by kernel_rfl, rfl, mixOk⟩
theorem cs85 (w0 : World) (hJ : J w0) : EnvCts Tryz.prog E85 w0 w0.heap.size := by
  refine ⟨fun c hc => ?_, fun c hc => ?_⟩
  · rcases List.mem_cons.1 hc with rfl | hc
    · exact fun w hb => all12 w (J_below hJ hb)
    cases hc
  · cases hc
noncomputable def ct85 : Ct := { f := 85, ps := [.v false .ro ls56, .v false .ro ls56], rs := [(false, [.bool])], shared := false, pre := fun (q : (List Shd) × (List Shd)) => pEq q.1 q.2, F := fun (q : (List Shd) × (List Shd)) => eqF q.1 q.2 }
theorem law85 : ∀ q : (List Shd) × (List Shd), pEq q.1 q.2 → eqS (α := Shd) Dft.dft (fun a b => pEq a b) (fun a b => eqF a b) q.1 q.2 (fun r => r = eqF q.1 q.2) := fun q hq => eqS_holds (α := Shd) Dft.dft (fun a b => pEq a b) (fun a b => eqF a b) q.1 q.2 hq.1 (fun i a _ h => hq.2 i a h) (fun _ _ => eqF_iff) eqF_iff
theorem all85 (w : World) (hJ : J w) : CtAt Tryz.prog ct85 w :=
  ct_by ok85 (cs85 w hJ) Tryz.func85 (by kernel_rfl) (H := (hint [(4, [.val 5 (.int .i64)])])) law85 (by kernel_rfl)
noncomputable def E142 : Env := { tt, eqs := [], cts := [] }
theorem ok142 : EnvOk Tryz.prog E142 := ⟨ttOk, by kernel_rfl, rfl, mixOk⟩
theorem cs142 (w0 : World) (hJ : J w0) : EnvCts Tryz.prog E142 w0 w0.heap.size := by
  refine ⟨fun c hc => ?_, fun c hc => ?_⟩
  · cases hc
  · cases hc
noncomputable def ct142 : Ct := { f := 142, ps := [.v true .ro ls127, .v true .ro ls127], rs := [(false, [.bool])], shared := false, pre := fun (q : Gen × Gen) => pEq q.1 q.2, F := fun (q : Gen × Gen) => eqF q.1 q.2 }
def st142 : List (EqStep Gen) := [.ne (fun (x y : Gen) => x.1 ≠ y.1), .ne (fun (x y : Gen) => x.2 ≠ y.2)]
def mk142 (a0 : S) (a1 : Int) : Gen := (a0, a1)
theorem a142 (x y : Gen) : eqAll x y st142 ↔ x = y := by
  constructor
  · rintro ⟨h0, h1, -⟩
    have h0 : x.1 = y.1 := Classical.byContradiction h0
    have h1 : x.2 = y.2 := Classical.byContradiction h1
    show mk142 (x.1) (x.2) = mk142 (y.1) (y.2)
    rw [h0, h1]
    all_goals rfl
  · rintro rfl
    exact ⟨fun h => h rfl, fun h => h rfl, trivial⟩
theorem w142 (x y : Gen) (h : wd x) : eqFine x y st142 := by
  first | simp only [wd_pair] at h | skip
  simp only [eqFine, st142, wd_pair]
  all_goals simp only [h, and_self]
theorem law142 : ∀ q : Gen × Gen, pEq q.1 q.2 → eqSt q.1 q.2 st142 (fun r => r = eqF q.1 q.2) := fun q hq => eqSt_holds q.1 q.2 st142 (w142 q.1 q.2 hq) (eqF_iff.trans (a142 q.1 q.2).symm)
theorem all142 (w : World) (hJ : J w) : CtAt Tryz.prog ct142 w :=
  ct_by ok142 (cs142 w hJ) Tryz.func142 (by kernel_rfl) (H := (hint [])) law142 (by kernel_rfl)
noncomputable def E86 : Env := { tt, eqs := [], cts := [ct142] }
theorem ok86 : EnvOk Tryz.prog E86 := ⟨ttOk, by kernel_rfl, rfl, mixOk⟩
theorem cs86 (w0 : World) (hJ : J w0) : EnvCts Tryz.prog E86 w0 w0.heap.size := by
  refine ⟨fun c hc => ?_, fun c hc => ?_⟩
  · rcases List.mem_cons.1 hc with rfl | hc
    · exact fun w hb => all142 w (J_below hJ hb)
    cases hc
  · cases hc
noncomputable def ct86 : Ct := { f := 86, ps := [.v false .ro ls57, .v false .ro ls57], rs := [(false, [.bool])], shared := false, pre := fun (q : (List Gen) × (List Gen)) => pEq q.1 q.2, F := fun (q : (List Gen) × (List Gen)) => eqF q.1 q.2 }
theorem law86 : ∀ q : (List Gen) × (List Gen), pEq q.1 q.2 → eqS (α := Gen) Dft.dft (fun a b => pEq a b) (fun a b => eqF a b) q.1 q.2 (fun r => r = eqF q.1 q.2) := fun q hq => eqS_holds (α := Gen) Dft.dft (fun a b => pEq a b) (fun a b => eqF a b) q.1 q.2 hq.1 (fun i a _ h => hq.2 i a h) (fun _ _ => eqF_iff) eqF_iff
theorem all86 (w : World) (hJ : J w) : CtAt Tryz.prog ct86 w :=
  ct_by ok86 (cs86 w hJ) Tryz.func86 (by kernel_rfl) (H := (hint [(4, [.val 5 (.int .i64)])])) law86 (by kernel_rfl)
noncomputable def E25 : Env := { tt, eqs := [], cts := [ct85, ct86] }
theorem ok25 : EnvOk Tryz.prog E25 := ⟨ttOk, by kernel_rfl, rfl, mixOk⟩
theorem cs25 (w0 : World) (hJ : J w0) : EnvCts Tryz.prog E25 w0 w0.heap.size := by
  refine ⟨fun c hc => ?_, fun c hc => ?_⟩
  · rcases List.mem_cons.1 hc with rfl | hc
    · exact fun w hb => all85 w (J_below hJ hb)
    rcases List.mem_cons.1 hc with rfl | hc
    · exact fun w hb => all86 w (J_below hJ hb)
    cases hc
  · cases hc
noncomputable def ct25 : Ct := { f := 25, ps := [.v true .ro ls59, .v true .ro ls59], rs := [(false, [.bool])], shared := false, pre := fun (q : Cch × Cch) => pEq q.1 q.2, F := fun (q : Cch × Cch) => eqF q.1 q.2 }
def st25 : List (EqStep Cch) := [.call (fun (x _ : Cch) => wd (x.1 : (List Shd))) (fun (x y : Cch) => eqF (x.1 : (List Shd)) y.1), .call (fun (x _ : Cch) => wd (x.2 : (List Gen))) (fun (x y : Cch) => eqF (x.2 : (List Gen)) y.2)]
def mk25 (a0 : (List Shd)) (a1 : (List Gen)) : Cch := (a0, a1)
theorem a25 (x y : Cch) : eqAll x y st25 ↔ x = y := by
  constructor
  · rintro ⟨h0, h1, -⟩
    have h0 : (x.1 : (List Shd)) = y.1 := eqF_iff.1 h0
    have h1 : (x.2 : (List Gen)) = y.2 := eqF_iff.1 h1
    show mk25 (x.1) (x.2) = mk25 (y.1) (y.2)
    rw [h0, h1]
    all_goals rfl
  · rintro rfl
    exact ⟨eqF_iff.2 rfl, eqF_iff.2 rfl, trivial⟩
theorem w25 (x y : Cch) (h : wd x) : eqFine x y st25 := by
  first | simp only [wd_pair] at h | skip
  simp only [eqFine, st25, wd_pair]
  all_goals simp only [h, and_self]
theorem law25 : ∀ q : Cch × Cch, pEq q.1 q.2 → eqSt q.1 q.2 st25 (fun r => r = eqF q.1 q.2) := fun q hq => eqSt_holds q.1 q.2 st25 (w25 q.1 q.2 hq) (eqF_iff.trans (a25 q.1 q.2).symm)
theorem all25 (w : World) (hJ : J w) : CtAt Tryz.prog ct25 w :=
  ct_by ok25 (cs25 w hJ) Tryz.func25 (by kernel_rfl) (H := (hint [])) law25 (by kernel_rfl)
noncomputable def E125 : Env := { tt, eqs := [], cts := [] }
theorem ok125 : EnvOk Tryz.prog E125 := ⟨ttOk, by kernel_rfl, rfl, mixOk⟩
theorem cs125 (w0 : World) (hJ : J w0) : EnvCts Tryz.prog E125 w0 w0.heap.size := by
  refine ⟨fun c hc => ?_, fun c hc => ?_⟩
  · cases hc
  · cases hc
noncomputable def ct125 : Ct := { f := 125, ps := [.v false .ro ls3], rs := [(false, ls9)], shared := false, pre := fun (x : Int) => pMarkText x, F := fun (x : Int) => mMarkText x }
theorem law125 : ∀ x : Int, pMarkText x → s_laws_markText x (fun r => r = mMarkText x) := fun x h => laws_markText_ok x h
theorem all125 (w : World) (hJ : J w) : CtAt Tryz.prog ct125 w :=
  ct_by ok125 (cs125 w hJ) Tryz.func125 (by kernel_rfl) (H := (hint [(4, [.val 0 (.int .i64), .val 3 (.str)])])) law125 (by kernel_rfl)
noncomputable def E72 : Env := { tt, eqs := [], cts := [ct125] }
theorem ok72 : EnvOk Tryz.prog E72 := ⟨ttOk, by kernel_rfl, rfl, mixOk⟩
theorem cs72 (m : Nat) (w0 : World) (hJ : Jn m w0) : EnvCts Tryz.prog E72 w0 m := by
  refine ⟨fun c hc => ?_, fun c hc => ?_⟩
  · rcases List.mem_cons.1 hc with rfl | hc
    · exact fun w hb => all125 w (Jn_J (Jn_below hJ hb))
    cases hc
  · cases hc
noncomputable def ct72 : CtM := { f := 72, ps := [.v false .io ls42, .v false .ro ls3], rs := [(false, ls3)], pre := fun (x : (List Fld) × Int) => pMarkFieldS x.1 x.2, F := fun (x : (List Fld) × Int) => mMarkFieldS x.1 x.2, W := fun (x : (List Fld) × Int) => wMarkFieldS x.1 x.2 }
theorem law72 : ∀ x : (List Fld) × Int, pMarkFieldS x.1 x.2 → s_laws_markFieldS x.1 x.2 (fun r y => r = mMarkFieldS x.1 x.2 ∧ y = wMarkFieldS x.1 x.2) := fun x h => laws_markFieldS_ok x.1 x.2 h
theorem all72 (m : Nat) (w : World) (hJ : Jn m w) : CtMAt Tryz.prog ct72 m w :=
  ctm_by ok72 (cs72 m w hJ) Tryz.func72 (by kernel_rfl) (H := (hint [(2, [.val 1 (.int .i64), .val 5 (.int .i64), .reg 0 140 [.str, .str] true])])) law72 (by kernel_rfl)
noncomputable def E54 : Env := { tt, eqs := [], cts := [ct125], ms := [ct72], deep := true }
theorem ok54 : EnvOk Tryz.prog E54 := ⟨ttOk, by kernel_rfl, rfl, mixOk⟩
theorem cs54 (m : Nat) (w0 : World) (hJ : Jn m w0) : EnvCts Tryz.prog E54 w0 m := by
  refine ⟨fun c hc => ?_, fun c hc => ?_⟩
  · rcases List.mem_cons.1 hc with rfl | hc
    · exact fun w hb => all125 w (Jn_J (Jn_below hJ hb))
    cases hc
  · rcases List.mem_cons.1 hc with rfl | hc
    · exact fun w hb => all72 m w (Jn_below hJ hb)
    cases hc
noncomputable def ct54 : CtM := { f := 54, ps := [.v false .io ls26, .v false .ro ls3], rs := [(false, ls3)], pre := fun (x : (List Slt) × Int) => pMarkSlotS x.1 x.2, F := fun (x : (List Slt) × Int) => mMarkSlotS x.1 x.2, W := fun (x : (List Slt) × Int) => wMarkSlotS x.1 x.2, deep := true }
theorem law54 : ∀ x : (List Slt) × Int, pMarkSlotS x.1 x.2 → s_laws_markSlotS x.1 x.2 (fun r y => r = mMarkSlotS x.1 x.2 ∧ y = wMarkSlotS x.1 x.2) := fun x h => laws_markSlotS_ok x.1 x.2 h
theorem all54 (m : Nat) (w : World) (hJ : Jn m w) : CtMAt Tryz.prog ct54 m w :=
  ctm_by ok54 (cs54 m w hJ) Tryz.func54 (by kernel_rfl) (H := (hint [(2, [.val 1 (.int .i64), .val 5 (.int .i64), .reg 0 95 [.str, .list 140 [.str, .str], .int .i64, .list 140 [.str, .str], .str, .int .i64, .int .i64, .bool] true true])])) law54 (by kernel_rfl)
noncomputable def E87 : Env := { tt, eqs := [], cts := [], ms := [ct54], deep := true }
theorem ok87 : EnvOk Tryz.prog E87 := ⟨ttOk, by kernel_rfl, rfl, mixOk⟩
theorem cs87 (m : Nat) (w0 : World) (hJ : Jn m w0) : EnvCts Tryz.prog E87 w0 m := by
  refine ⟨fun c hc => ?_, fun c hc => ?_⟩
  · cases hc
  · rcases List.mem_cons.1 hc with rfl | hc
    · exact fun w hb => all54 m w (Jn_below hJ hb)
    cases hc
noncomputable def ct87 : CtM := { f := 87, ps := [.v false .io ls56, .v false .ro ls3], rs := [(false, ls3)], pre := fun (x : (List Shd) × Int) => pMarkShardS x.1 x.2, F := fun (x : (List Shd) × Int) => mMarkShardS x.1 x.2, W := fun (x : (List Shd) × Int) => wMarkShardS x.1 x.2, deep := true }
theorem law87 : ∀ x : (List Shd) × Int, pMarkShardS x.1 x.2 → s_laws_markShardS x.1 x.2 (fun r y => r = mMarkShardS x.1 x.2 ∧ y = wMarkShardS x.1 x.2) := fun x h => laws_markShardS_ok x.1 x.2 h
theorem all87 (m : Nat) (w : World) (hJ : Jn m w) : CtMAt Tryz.prog ct87 m w :=
  ctm_by ok87 (cs87 m w hJ) Tryz.func87 (by kernel_rfl) (H := (hint [(2, [.val 1 (.int .i64), .val 5 (.int .i64), .reg 0 28 [.int .i64, .int .i64, .list 95 [.str, .list 140 [.str, .str], .int .i64, .list 140 [.str, .str], .str, .int .i64, .int .i64, .bool], .int .i64] true true])])) law87 (by kernel_rfl)
noncomputable def E88 : Env := { tt, eqs := [], cts := [ct125] }
theorem ok88 : EnvOk Tryz.prog E88 := ⟨ttOk, by kernel_rfl, rfl, mixOk⟩
theorem cs88 (m : Nat) (w0 : World) (hJ : Jn m w0) : EnvCts Tryz.prog E88 w0 m := by
  refine ⟨fun c hc => ?_, fun c hc => ?_⟩
  · rcases List.mem_cons.1 hc with rfl | hc
    · exact fun w hb => all125 w (Jn_J (Jn_below hJ hb))
    cases hc
  · cases hc
noncomputable def ct88 : CtM := { f := 88, ps := [.v false .io ls57, .v false .ro ls3], rs := [(false, ls3)], pre := fun (x : (List Gen) × Int) => pMarkGenRowS x.1 x.2, F := fun (x : (List Gen) × Int) => mMarkGenRowS x.1 x.2, W := fun (x : (List Gen) × Int) => wMarkGenRowS x.1 x.2 }
theorem law88 : ∀ x : (List Gen) × Int, pMarkGenRowS x.1 x.2 → s_laws_markGenRowS x.1 x.2 (fun r y => r = mMarkGenRowS x.1 x.2 ∧ y = wMarkGenRowS x.1 x.2) := fun x h => laws_markGenRowS_ok x.1 x.2 h
theorem all88 (m : Nat) (w : World) (hJ : Jn m w) : CtMAt Tryz.prog ct88 m w :=
  ctm_by ok88 (cs88 m w hJ) Tryz.func88 (by kernel_rfl) (H := (hint [(2, [.val 1 (.int .i64), .val 5 (.int .i64), .reg 0 127 [.str, .int .i64] true])])) law88 (by kernel_rfl)
noncomputable def E26 : Env := { tt, eqs := [], cts := [], ms := [ct87, ct88], deep := true }
theorem ok26 : EnvOk Tryz.prog E26 := ⟨ttOk, by kernel_rfl, rfl, mixOk⟩
theorem cs26 (m : Nat) (w0 : World) (hJ : Jn m w0) : EnvCts Tryz.prog E26 w0 m := by
  refine ⟨fun c hc => ?_, fun c hc => ?_⟩
  · cases hc
  · rcases List.mem_cons.1 hc with rfl | hc
    · exact fun w hb => all87 m w (Jn_below hJ hb)
    rcases List.mem_cons.1 hc with rfl | hc
    · exact fun w hb => all88 m w (Jn_below hJ hb)
    cases hc
noncomputable def ct26 : CtM := { f := 26, ps := [.v true .io ls59, .v false .ro ls3], rs := [(false, ls3)], pre := fun (x : Cch × Int) => pMarkCache x.1 x.2, F := fun (x : Cch × Int) => mMarkCache x.1 x.2, W := fun (x : Cch × Int) => wMarkCache x.1 x.2, deep := true }
theorem law26 : ∀ x : Cch × Int, pMarkCache x.1 x.2 → s_laws_markCache x.1 x.2 (fun r y => r = mMarkCache x.1 x.2 ∧ y = wMarkCache x.1 x.2) := fun x h => laws_markCache_ok x.1 x.2 h
theorem all26 (m : Nat) (w : World) (hJ : Jn m w) : CtMAt Tryz.prog ct26 m w :=
  ctm_by ok26 (cs26 m w hJ) Tryz.func26 (by kernel_rfl) (H := (hint [])) law26 (by kernel_rfl)
noncomputable def E41 : Env := { tt, eqs := [], cts := [], ms := [ct72] }
theorem ok41 : EnvOk Tryz.prog E41 := ⟨ttOk, by kernel_rfl, rfl, mixOk⟩
theorem cs41 (m : Nat) (w0 : World) (hJ : Jn m w0) : EnvCts Tryz.prog E41 w0 m := by
  refine ⟨fun c hc => ?_, fun c hc => ?_⟩
  · cases hc
  · rcases List.mem_cons.1 hc with rfl | hc
    · exact fun w hb => all72 m w (Jn_below hJ hb)
    cases hc
noncomputable def ct41 : CtM := { f := 41, ps := [.v true .io ls44, .v false .ro ls3], rs := [(false, ls3)], pre := fun (x : Rsp × Int) => pMarkResponse x.1 x.2, F := fun (x : Rsp × Int) => mMarkResponse x.1 x.2, W := fun (x : Rsp × Int) => wMarkResponse x.1 x.2 }
theorem law41 : ∀ x : Rsp × Int, pMarkResponse x.1 x.2 → s_laws_markResponse x.1 x.2 (fun r y => r = mMarkResponse x.1 x.2 ∧ y = wMarkResponse x.1 x.2) := fun x h => laws_markResponse_ok x.1 x.2 h
theorem all41 (m : Nat) (w : World) (hJ : Jn m w) : CtMAt Tryz.prog ct41 m w :=
  ctm_by ok41 (cs41 m w hJ) Tryz.func41 (by kernel_rfl) (H := (hint [])) law41 (by kernel_rfl)
noncomputable def E20 : Env := { tt, eqs := [], cts := [], ms := [ct72, ct41] }
theorem ok20 : EnvOk Tryz.prog E20 := ⟨ttOk, by kernel_rfl, rfl, mixOk⟩
theorem cs20 (m : Nat) (w0 : World) (hJ : Jn m w0) : EnvCts Tryz.prog E20 w0 m := by
  refine ⟨fun c hc => ?_, fun c hc => ?_⟩
  · cases hc
  · rcases List.mem_cons.1 hc with rfl | hc
    · exact fun w hb => all72 m w (Jn_below hJ hb)
    rcases List.mem_cons.1 hc with rfl | hc
    · exact fun w hb => all41 m w (Jn_below hJ hb)
    cases hc
noncomputable def ct20 : CtM := { f := 20, ps := [.v true .io ls46, .v false .ro ls3], rs := [(false, ls3)], pre := fun (x : Sto × Int) => pMarkStored x.1 x.2, F := fun (x : Sto × Int) => mMarkStored x.1 x.2, W := fun (x : Sto × Int) => wMarkStored x.1 x.2 }
theorem law20 : ∀ x : Sto × Int, pMarkStored x.1 x.2 → s_laws_markStored x.1 x.2 (fun r y => r = mMarkStored x.1 x.2 ∧ y = wMarkStored x.1 x.2) := fun x h => laws_markStored_ok x.1 x.2 h
theorem all20 (m : Nat) (w : World) (hJ : Jn m w) : CtMAt Tryz.prog ct20 m w :=
  ctm_by ok20 (cs20 m w hJ) Tryz.func20 (by kernel_rfl) (H := (hint [])) law20 (by kernel_rfl)
noncomputable def E117 : Env := { tt, eqs := [], cts := [ct125] }
theorem ok117 : EnvOk Tryz.prog E117 := ⟨ttOk, by kernel_rfl, rfl, mixOk⟩
theorem cs117 (w0 : World) (hJ : J w0) : EnvCts Tryz.prog E117 w0 w0.heap.size := by
  refine ⟨fun c hc => ?_, fun c hc => ?_⟩
  · rcases List.mem_cons.1 hc with rfl | hc
    · exact fun w hb => all125 w (J_below hJ hb)
    cases hc
  · cases hc
noncomputable def ct117 : Ct := { f := 117, ps := [.v false .ro ls42, .v false .ro ls3], rs := [(false, ls3)], shared := false, pre := fun (x : (List Fld) × Int) => pHeldFieldS x.1 x.2, F := fun (x : (List Fld) × Int) => mHeldFieldS x.1 x.2 }
theorem law117 : ∀ x : (List Fld) × Int, pHeldFieldS x.1 x.2 → s_laws_heldFieldS x.1 x.2 (fun r => r = mHeldFieldS x.1 x.2) := fun x h => laws_heldFieldS_ok x.1 x.2 h
theorem all117 (w : World) (hJ : J w) : CtAt Tryz.prog ct117 w :=
  ct_by ok117 (cs117 w hJ) Tryz.func117 (by kernel_rfl) (H := (hint [(2, [.val 1 (.int .i64), .val 5 (.int .i64)])])) law117 (by kernel_rfl)
noncomputable def E55 : Env := { tt, eqs := [], cts := [ct125, ct117] }
theorem ok55 : EnvOk Tryz.prog E55 := ⟨ttOk, by kernel_rfl, rfl, mixOk⟩
theorem cs55 (w0 : World) (hJ : J w0) : EnvCts Tryz.prog E55 w0 w0.heap.size := by
  refine ⟨fun c hc => ?_, fun c hc => ?_⟩
  · rcases List.mem_cons.1 hc with rfl | hc
    · exact fun w hb => all125 w (J_below hJ hb)
    rcases List.mem_cons.1 hc with rfl | hc
    · exact fun w hb => all117 w (J_below hJ hb)
    cases hc
  · cases hc
noncomputable def ct55 : Ct := { f := 55, ps := [.v false .ro ls26, .v false .ro ls3], rs := [(false, ls3)], shared := false, pre := fun (x : (List Slt) × Int) => pHeldSlotS x.1 x.2, F := fun (x : (List Slt) × Int) => mHeldSlotS x.1 x.2 }
theorem law55 : ∀ x : (List Slt) × Int, pHeldSlotS x.1 x.2 → s_laws_heldSlotS x.1 x.2 (fun r => r = mHeldSlotS x.1 x.2) := fun x h => laws_heldSlotS_ok x.1 x.2 h
theorem all55 (w : World) (hJ : J w) : CtAt Tryz.prog ct55 w :=
  ct_by ok55 (cs55 w hJ) Tryz.func55 (by kernel_rfl) (H := (hint [(2, [.val 1 (.int .i64), .val 5 (.int .i64)])])) law55 (by kernel_rfl)
noncomputable def E89 : Env := { tt, eqs := [], cts := [ct55] }
theorem ok89 : EnvOk Tryz.prog E89 := ⟨ttOk, by kernel_rfl, rfl, mixOk⟩
theorem cs89 (w0 : World) (hJ : J w0) : EnvCts Tryz.prog E89 w0 w0.heap.size := by
  refine ⟨fun c hc => ?_, fun c hc => ?_⟩
  · rcases List.mem_cons.1 hc with rfl | hc
    · exact fun w hb => all55 w (J_below hJ hb)
    cases hc
  · cases hc
noncomputable def ct89 : Ct := { f := 89, ps := [.v false .ro ls56, .v false .ro ls3], rs := [(false, ls3)], shared := false, pre := fun (x : (List Shd) × Int) => pHeldShardS x.1 x.2, F := fun (x : (List Shd) × Int) => mHeldShardS x.1 x.2 }
theorem law89 : ∀ x : (List Shd) × Int, pHeldShardS x.1 x.2 → s_laws_heldShardS x.1 x.2 (fun r => r = mHeldShardS x.1 x.2) := fun x h => laws_heldShardS_ok x.1 x.2 h
theorem all89 (w : World) (hJ : J w) : CtAt Tryz.prog ct89 w :=
  ct_by ok89 (cs89 w hJ) Tryz.func89 (by kernel_rfl) (H := (hint [(2, [.val 1 (.int .i64), .val 5 (.int .i64)])])) law89 (by kernel_rfl)
noncomputable def E90 : Env := { tt, eqs := [], cts := [ct125] }
theorem ok90 : EnvOk Tryz.prog E90 := ⟨ttOk, by kernel_rfl, rfl, mixOk⟩
theorem cs90 (w0 : World) (hJ : J w0) : EnvCts Tryz.prog E90 w0 w0.heap.size := by
  refine ⟨fun c hc => ?_, fun c hc => ?_⟩
  · rcases List.mem_cons.1 hc with rfl | hc
    · exact fun w hb => all125 w (J_below hJ hb)
    cases hc
  · cases hc
noncomputable def ct90 : Ct := { f := 90, ps := [.v false .ro ls57, .v false .ro ls3], rs := [(false, ls3)], shared := false, pre := fun (x : (List Gen) × Int) => pHeldGenRowS x.1 x.2, F := fun (x : (List Gen) × Int) => mHeldGenRowS x.1 x.2 }
theorem law90 : ∀ x : (List Gen) × Int, pHeldGenRowS x.1 x.2 → s_laws_heldGenRowS x.1 x.2 (fun r => r = mHeldGenRowS x.1 x.2) := fun x h => laws_heldGenRowS_ok x.1 x.2 h
theorem all90 (w : World) (hJ : J w) : CtAt Tryz.prog ct90 w :=
  ct_by ok90 (cs90 w hJ) Tryz.func90 (by kernel_rfl) (H := (hint [(2, [.val 1 (.int .i64), .val 5 (.int .i64)])])) law90 (by kernel_rfl)
noncomputable def E27 : Env := { tt, eqs := [], cts := [ct89, ct90] }
theorem ok27 : EnvOk Tryz.prog E27 := ⟨ttOk, by kernel_rfl, rfl, mixOk⟩
theorem cs27 (w0 : World) (hJ : J w0) : EnvCts Tryz.prog E27 w0 w0.heap.size := by
  refine ⟨fun c hc => ?_, fun c hc => ?_⟩
  · rcases List.mem_cons.1 hc with rfl | hc
    · exact fun w hb => all89 w (J_below hJ hb)
    rcases List.mem_cons.1 hc with rfl | hc
    · exact fun w hb => all90 w (J_below hJ hb)
    cases hc
  · cases hc
noncomputable def ct27 : Ct := { f := 27, ps := [.v true .ro ls59, .v false .ro ls3], rs := [(false, ls3)], shared := false, pre := fun (x : Cch × Int) => pHeldCache x.1 x.2, F := fun (x : Cch × Int) => mHeldCache x.1 x.2 }
theorem law27 : ∀ x : Cch × Int, pHeldCache x.1 x.2 → s_laws_heldCache x.1 x.2 (fun r => r = mHeldCache x.1 x.2) := fun x h => laws_heldCache_ok x.1 x.2 h
theorem all27 (w : World) (hJ : J w) : CtAt Tryz.prog ct27 w :=
  ct_by ok27 (cs27 w hJ) Tryz.func27 (by kernel_rfl) (H := (hint [])) law27 (by kernel_rfl)
noncomputable def E5 : Env := { tt, eqs := [], cts := [ct21, ct15, ct23, ct17, ct22, ct24, ct25, ct19, ct27], ms := [ct26, ct20] }
theorem ok5 : EnvOk Tryz.prog E5 := ⟨ttOk, by kernel_rfl, rfl, mixOk⟩
theorem cs5 (w0 : World) (hJ : J w0) : EnvCts Tryz.prog E5 w0 w0.heap.size := by
  refine ⟨fun c hc => ?_, fun c hc => ?_⟩
  · rcases List.mem_cons.1 hc with rfl | hc
    · exact fun w hb => all21 w (J_below hJ hb)
    rcases List.mem_cons.1 hc with rfl | hc
    · exact fun w hb => all15 w (J_below hJ hb)
    rcases List.mem_cons.1 hc with rfl | hc
    · exact fun w hb => all23 w (J_below hJ hb)
    rcases List.mem_cons.1 hc with rfl | hc
    · exact fun w hb => all17 w (J_below hJ hb)
    rcases List.mem_cons.1 hc with rfl | hc
    · exact fun w hb => all22 w (J_below hJ hb)
    rcases List.mem_cons.1 hc with rfl | hc
    · exact fun w hb => all24 w (J_below hJ hb)
    rcases List.mem_cons.1 hc with rfl | hc
    · exact fun w hb => all25 w (J_below hJ hb)
    rcases List.mem_cons.1 hc with rfl | hc
    · exact fun w hb => all19 w (J_below hJ hb)
    rcases List.mem_cons.1 hc with rfl | hc
    · exact fun w hb => all27 w (J_below hJ hb)
    cases hc
  · rcases List.mem_cons.1 hc with rfl | hc
    · exact fun w hb => all26 w0.heap.size w (Jn_of hJ hb)
    rcases List.mem_cons.1 hc with rfl | hc
    · exact fun w hb => all20 w0.heap.size w (Jn_of hJ hb)
    cases hc
noncomputable def ct5 : Ct := boolCt 5 [.v true .ro ls54, .v true .ro ls39, .v false .ro ls3] (fun (x : Cch × Sto × Int) => p_FnExactCacheFill x.1 x.2.1 x.2.2)
theorem law5 : ∀ x : Cch × Sto × Int, p_FnExactCacheFill x.1 x.2.1 x.2.2 → s_laws_FnExactCacheFill x.1 x.2.1 x.2.2 (fun r => r = true) := fun x h => laws_FnExactCacheFill_ok x.1 x.2.1 x.2.2 h
theorem all5 (w : World) (hJ : J w) : CtAt Tryz.prog ct5 w :=
  ct_by ok5 (cs5 w hJ) Tryz.func5 (by kernel_rfl) (H := (hint [])) law5 (by kernel_rfl)
end Go.Proofs.YtkolimomaahdoaaGreatDoor.Ap
end
