-- Written by own.py, a program of this session's own, which calls the kit's print. Lean checks it.
import Derived.Test.YtlhnhilaeoegoaaQFnExactSameShardx8
import Derived.Test.YtlhnhilaeoegoaaKit
set_option linter.unusedVariables false
set_option linter.unusedSimpArgs false
namespace Go.Proofs.Ytlhnhilaeoegoaa.QFnExactSameShard
open Go.RowKit Go.Proofs.YtlhnhilaeoegoaaW.PrintWords Go.Proofs.YtlhnhilaeoegoaaW.PrintLast
def b95 (x : S95) : Nat := x.f0.size + (x.f1.size + 0)
def M95 (x : S95) : Prop := True
theorem eqField_refl (x : S95) : Kit.Late fun k => laws_eqField.f x.f0 x.f1 x.f0 x.f1 = some true := Kit.Late.all fun k => by unfold laws_eqField.f; simp
theorem eqFieldS_refl (l : List S95) (hl : l.length ≤ 9223372036854775807 ∧ ∀ y ∈ l, M95 y) : Kit.Late fun k => laws_eqFieldS.f k l l = some true := by
  have e : ∀ k : Nat, laws_eqFieldS.f k l l = laws_eqFieldS.l0 k l l 0 := fun k => by unfold laws_eqFieldS.f; rw [if_pos rfl]
  simp only [e]
  exact Kit.eq_list laws_eqFieldS.l0 (fun k x y => laws_eqField.f x.f0 x.f1 y.f0 y.f1) rd_T95 (fun _ _ _ _ => rfl) (fun l i h => Kit.getD_at l _ i h) l hl.1 (fun x hx => eqField_refl x) l.length 0 (by omega)
def b27 (x : S27) : Nat := (x.f1.length + (x.f1.map b95).sum) + (x.f2.size + 0)
def M27 (x : S27) : Prop := (x.f1.length ≤ 9223372036854775807 ∧ ∀ y ∈ x.f1, M95 y)
theorem eqResponse_refl (x : S27) (hx : M27 x) : Kit.Late fun k => laws_eqResponse.f k x.f0 x.f1 x.f2 x.f0 x.f1 x.f2 = some true := by
  refine (eqFieldS_refl x.f1 hx).mono fun k hk => ?_
  unfold laws_eqResponse.f
  simp [hk]
def b85 (x : S85) : Nat := x.f0.size + ((x.f1.length + (x.f1.map b95).sum) + (b27 x.f2 + 0))
def M85 (x : S85) : Prop := (x.f1.length ≤ 9223372036854775807 ∧ ∀ y ∈ x.f1, M95 y) ∧ M27 x.f2
theorem eqStored_refl (x : S85) (hx : M85 x) : Kit.Late fun k => laws_eqStored.f k x.f0 x.f1 x.f2.f0 x.f2.f1 x.f2.f2 x.f3 x.f4 x.f0 x.f1 x.f2.f0 x.f2.f1 x.f2.f2 x.f3 x.f4 = some true := by
  refine ((eqFieldS_refl x.f1 hx.1).and (eqResponse_refl x.f2 hx.2)).mono fun k hk => ?_
  unfold laws_eqStored.f
  simp [hk.1, hk.2]
def b87 (x : S87) : Nat := b85 x.f0 + 0
def M87 (x : S87) : Prop := M85 x.f0
theorem eqSlot_refl (x : S87) (hx : M87 x) : Kit.Late fun k => laws_eqSlot.f k x.f0.f0 x.f0.f1 x.f0.f2.f0 x.f0.f2.f1 x.f0.f2.f2 x.f0.f3 x.f0.f4 x.f1 x.f0.f0 x.f0.f1 x.f0.f2.f0 x.f0.f2.f1 x.f0.f2.f2 x.f0.f3 x.f0.f4 x.f1 = some true := by
  refine (eqStored_refl x.f0 hx).mono fun k hk => ?_
  unfold laws_eqSlot.f
  simp [hk]
theorem eqSlotS_refl (l : List S87) (hl : l.length ≤ 9223372036854775807 ∧ ∀ y ∈ l, M87 y) : Kit.Late fun k => laws_eqSlotS.f k l l = some true := by
  have e : ∀ k : Nat, laws_eqSlotS.f k l l = laws_eqSlotS.l0 k l l 0 := fun k => by unfold laws_eqSlotS.f; rw [if_pos rfl]
  simp only [e]
  exact Kit.eq_list laws_eqSlotS.l0 (fun k x y => laws_eqSlot.f k x.f0.f0 x.f0.f1 x.f0.f2.f0 x.f0.f2.f1 x.f0.f2.f2 x.f0.f3 x.f0.f4 x.f1 y.f0.f0 y.f0.f1 y.f0.f2.f0 y.f0.f2.f1 y.f0.f2.f2 y.f0.f3 y.f0.f4 y.f1) rd_T87 (fun _ _ _ _ => rfl) (fun l i h => Kit.getD_at l _ i h) l hl.1 (fun x hx => eqSlot_refl x (hl.2 x hx)) l.length 0 (by omega)
structure S51 where
  f0 : Int
  f1 : Int
  f2 : List (S87)
  f3 : Int
def b51 (x : S51) : Nat := (x.f2.length + (x.f2.map b87).sum) + 0
def M51 (x : S51) : Prop := (x.f2.length ≤ 9223372036854775807 ∧ ∀ y ∈ x.f2, M87 y)
theorem eqShard_refl (x : S51) (hx : M51 x) : Kit.Late fun k => laws_eqShard.f k x.f0 x.f1 x.f2 x.f3 x.f0 x.f1 x.f2 x.f3 = some true := by
  refine (eqSlotS_refl x.f2 hx).mono fun k hk => ?_
  unfold laws_eqShard.f
  simp [hk]
def b103 (x : S103) : Nat := x.f0.size + (x.f1.size + 0)
def M103 (x : S103) : Prop := True
theorem szField_tells (x : S103) (hx : F103 x) (left : Int) (h0 : 0 ≤ left) (h1 : left ≤ 1048576) : Kit.Late fun k => laws_szField.f x.f0 x.f1 left = some (Kit.szr left (b103 x)) := by
  have e : laws_szField.f x.f0 x.f1 left = Kit.szs left x.f0.size fun t1 => Kit.szs t1 x.f1.size fun t2 => some t2 := rfl
  simp only [e]
  exact Kit.szs_eval h0 h1 hx.1 fun g1 => Kit.szs_eval (by omega) (by omega) hx.2 fun g2 => Kit.sz_end (by omega)
theorem szFieldS_tells (l : List S103) (hl : Opn.Fsl F103 l) (left : Int) (h0 : 0 ≤ left) (h1 : left ≤ 1048576) : Kit.Late fun k => laws_szFieldS.f k l left = some (Kit.szr left (l.length + (l.map b103).sum)) := by
  have e : ∀ k : Nat, laws_szFieldS.f k l left = Kit.szs left l.length fun t => laws_szFieldS.l0 k l t 0 := fun k => rfl
  simp only [e]
  exact Kit.szs_eval h0 h1 hl.1 fun g => Kit.sz_list laws_szFieldS.l0 (fun k x t => laws_szField.f x.f0 x.f1 t) b103 rd_T103 (fun _ _ _ _ => rfl) (fun l i h => Kit.getD_at l _ i h) l hl.1 (fun x hx t h0 h1 => szField_tells x (hl.2 x hx) t h0 h1) l.length 0 _ (by omega) (by omega) (by omega)
def b44 (x : S44) : Nat := (x.f1.length + (x.f1.map b103).sum) + (x.f2.size + 0)
def M44 (x : S44) : Prop := (x.f1.length ≤ 9223372036854775807 ∧ ∀ y ∈ x.f1, M103 y)
theorem szResponse_tells (x : S44) (hx : F44 x) (left : Int) (h0 : 0 ≤ left) (h1 : left ≤ 1048576) : Kit.Late fun k => laws_szResponse.f k x.f0 x.f1 x.f2 left = some (Kit.szr left (b44 x)) := by
  have e : ∀ k : Nat, laws_szResponse.f k x.f0 x.f1 x.f2 left = Kit.szc (laws_szFieldS.f k x.f1 left) fun t1 => Kit.szs t1 x.f2.size fun t2 => some t2 := fun k => rfl
  simp only [e]
  exact Kit.szc_eval (szFieldS_tells x.f1 hx.2.1 _ (by omega) (by omega)) fun g1 => Kit.szs_eval (by omega) (by omega) hx.2.2 fun g2 => Kit.sz_end (by omega)
def b107 (x : S107) : Nat := x.f0.size + ((x.f1.length + (x.f1.map b103).sum) + (b44 x.f2 + 0))
def M107 (x : S107) : Prop := (x.f1.length ≤ 9223372036854775807 ∧ ∀ y ∈ x.f1, M103 y) ∧ M44 x.f2
theorem szStored_tells (x : S107) (hx : F107 x) (left : Int) (h0 : 0 ≤ left) (h1 : left ≤ 1048576) : Kit.Late fun k => laws_szStored.f k x.f0 x.f1 x.f2.f0 x.f2.f1 x.f2.f2 x.f3 x.f4 left = some (Kit.szr left (b107 x)) := by
  have e : ∀ k : Nat, laws_szStored.f k x.f0 x.f1 x.f2.f0 x.f2.f1 x.f2.f2 x.f3 x.f4 left = Kit.szs left x.f0.size fun t1 => Kit.szc (laws_szFieldS.f k x.f1 t1) fun t2 => Kit.szc (laws_szResponse.f k x.f2.f0 x.f2.f1 x.f2.f2 t2) fun t3 => some t3 := fun k => rfl
  simp only [e]
  exact Kit.szs_eval h0 h1 hx.1 fun g1 => Kit.szc_eval (szFieldS_tells x.f1 hx.2.1 _ (by omega) (by omega)) fun g2 => Kit.szc_eval (szResponse_tells x.f2 hx.2.2.1 _ (by omega) (by omega)) fun g3 => Kit.sz_end (by omega)
def b109 (x : S109) : Nat := b107 x.f0 + 0
def M109 (x : S109) : Prop := M107 x.f0
theorem szSlot_tells (x : S109) (hx : F109 x) (left : Int) (h0 : 0 ≤ left) (h1 : left ≤ 1048576) : Kit.Late fun k => laws_szSlot.f k x.f0.f0 x.f0.f1 x.f0.f2.f0 x.f0.f2.f1 x.f0.f2.f2 x.f0.f3 x.f0.f4 x.f1 left = some (Kit.szr left (b109 x)) := by
  have e : ∀ k : Nat, laws_szSlot.f k x.f0.f0 x.f0.f1 x.f0.f2.f0 x.f0.f2.f1 x.f0.f2.f2 x.f0.f3 x.f0.f4 x.f1 left = Kit.szc (laws_szStored.f k x.f0.f0 x.f0.f1 x.f0.f2.f0 x.f0.f2.f1 x.f0.f2.f2 x.f0.f3 x.f0.f4 left) fun t1 => some t1 := fun k => rfl
  simp only [e]
  exact Kit.szc_eval (szStored_tells x.f0 hx.1 _ (by omega) (by omega)) fun g1 => Kit.sz_end (by omega)
theorem szSlotS_tells (l : List S109) (hl : Opn.Fsl F109 l) (left : Int) (h0 : 0 ≤ left) (h1 : left ≤ 1048576) : Kit.Late fun k => laws_szSlotS.f k l left = some (Kit.szr left (l.length + (l.map b109).sum)) := by
  have e : ∀ k : Nat, laws_szSlotS.f k l left = Kit.szs left l.length fun t => laws_szSlotS.l0 k l t 0 := fun k => rfl
  simp only [e]
  exact Kit.szs_eval h0 h1 hl.1 fun g => Kit.sz_list laws_szSlotS.l0 (fun k x t => laws_szSlot.f k x.f0.f0 x.f0.f1 x.f0.f2.f0 x.f0.f2.f1 x.f0.f2.f2 x.f0.f3 x.f0.f4 x.f1 t) b109 rd_T109 (fun _ _ _ _ => rfl) (fun l i h => Kit.getD_at l _ i h) l hl.1 (fun x hx t h0 h1 => szSlot_tells x (hl.2 x hx) t h0 h1) l.length 0 _ (by omega) (by omega) (by omega)
def b59 (x : S59) : Nat := (x.f2.length + (x.f2.map b109).sum) + 0
def M59 (x : S59) : Prop := (x.f2.length ≤ 9223372036854775807 ∧ ∀ y ∈ x.f2, M109 y)
theorem szShard_tells (x : S59) (hx : F59 x) (left : Int) (h0 : 0 ≤ left) (h1 : left ≤ 1048576) : Kit.Late fun k => laws_szShard.f k x.f0 x.f1 x.f2 x.f3 left = some (Kit.szr left (b59 x)) := by
  have e : ∀ k : Nat, laws_szShard.f k x.f0 x.f1 x.f2 x.f3 left = Kit.szc (laws_szSlotS.f k x.f2 left) fun t1 => some t1 := fun k => rfl
  simp only [e]
  exact Kit.szc_eval (szSlotS_tells x.f2 hx.2.2.1 _ (by omega) (by omega)) fun g1 => Kit.sz_end (by omega)
def cv103 (x : S103) : S95 := ⟨x.f0, x.f1⟩
theorem cv103_bulk (x : S103) : b95 (cv103 x) = b103 x := by
  simp [b95, b103, cv103]
theorem cv103_M (x : S103) (hx : F103 x) : M95 (cv103 x) := by
  exact trivial
theorem toField_tells (x : S103) (hb : b103 x ≤ 1048576) : Kit.Late fun k => laws_toField.f x.f0 x.f1 = some ((cv103 x).f0, (cv103 x).f1) := Kit.Late.all fun k => rfl
theorem toFieldS_tells (l : List S103) (hb : l.length + (l.map b103).sum ≤ 1048576) : Kit.Late fun k => laws_toFieldS.f k l = some (l.map cv103) := by
  have e : ∀ k : Nat, laws_toFieldS.f k l = laws_toFieldS.l0 k l (List.replicate l.length z95) 0 := fun k => by
    unfold laws_toFieldS.f
    rw [if_pos (by omega), if_pos (by rw [Int.toNat_natCast]; omega), Int.toNat_natCast]
  simp only [e]
  exact Kit.to_list laws_toFieldS.l0 (fun k x => laws_toField.f x.f0 x.f1) (fun y => (⟨y.1, y.2⟩ : S95)) (fun x => ((cv103 x).f0, (cv103 x).f1)) rd_T103 (fun _ _ _ _ => rfl) (fun l i h => Kit.getD_at l _ i h) l (by omega) (fun x hx => toField_tells x (by have := Kit.le_sum b103 l x hx; omega)) l.length 0 _ (by omega) (by simp)
def cv44 (x : S44) : S27 := ⟨x.f0, x.f1.map cv103, x.f2⟩
theorem cv44_bulk (x : S44) : b27 (cv44 x) = b44 x := by
  simp [b27, b44, cv44, cv103_bulk, Function.comp_def]
theorem cv44_M (x : S44) (hx : F44 x) : M27 (cv44 x) := by
  exact ⟨by rw [show (cv44 x).f1 = x.f1.map cv103 from rfl, List.length_map]; exact (hx.2.1).1, fun y hy => by obtain ⟨z, hz, rfl⟩ := List.mem_map.mp hy; exact cv103_M z ((hx.2.1).2 z hz)⟩
theorem toResponse_tells (x : S44) (hb : b44 x ≤ 1048576) : Kit.Late fun k => laws_toResponse.f k x.f0 x.f1 x.f2 = some ((cv44 x).f0, (cv44 x).f1, (cv44 x).f2) := by
  refine (toFieldS_tells x.f1 (by have := hb; simp only [b44] at this; omega)).mono fun k hk => ?_
  unfold laws_toResponse.f
  rw [hk]
  rfl
def cv107 (x : S107) : S85 := ⟨x.f0, x.f1.map cv103, cv44 x.f2, x.f3, x.f4⟩
theorem cv107_bulk (x : S107) : b85 (cv107 x) = b107 x := by
  simp [b85, b107, cv107, cv103_bulk, cv44_bulk, Function.comp_def]
theorem cv107_M (x : S107) (hx : F107 x) : M85 (cv107 x) := by
  exact ⟨⟨by rw [show (cv107 x).f1 = x.f1.map cv103 from rfl, List.length_map]; exact (hx.2.1).1, fun y hy => by obtain ⟨z, hz, rfl⟩ := List.mem_map.mp hy; exact cv103_M z ((hx.2.1).2 z hz)⟩, cv44_M x.f2 hx.2.2.1⟩
theorem toStored_tells (x : S107) (hb : b107 x ≤ 1048576) : Kit.Late fun k => laws_toStored.f k x.f0 x.f1 x.f2.f0 x.f2.f1 x.f2.f2 x.f3 x.f4 = some ((cv107 x).f0, (cv107 x).f1, (cv107 x).f2.f0, (cv107 x).f2.f1, (cv107 x).f2.f2, (cv107 x).f3, (cv107 x).f4) := by
  refine ((toFieldS_tells x.f1 (by have := hb; simp only [b107] at this; omega)).and (toResponse_tells x.f2 (by have := hb; simp only [b107] at this; omega))).mono fun k hk => ?_
  unfold laws_toStored.f
  rw [hk.1, hk.2]
  rfl
def cv109 (x : S109) : S87 := ⟨cv107 x.f0, x.f1⟩
theorem cv109_bulk (x : S109) : b87 (cv109 x) = b109 x := by
  simp [b87, b109, cv109, cv107_bulk]
theorem cv109_M (x : S109) (hx : F109 x) : M87 (cv109 x) := by
  exact cv107_M x.f0 hx.1
theorem toSlot_tells (x : S109) (hb : b109 x ≤ 1048576) : Kit.Late fun k => laws_toSlot.f k x.f0.f0 x.f0.f1 x.f0.f2.f0 x.f0.f2.f1 x.f0.f2.f2 x.f0.f3 x.f0.f4 x.f1 = some ((cv109 x).f0.f0, (cv109 x).f0.f1, (cv109 x).f0.f2.f0, (cv109 x).f0.f2.f1, (cv109 x).f0.f2.f2, (cv109 x).f0.f3, (cv109 x).f0.f4, (cv109 x).f1) := by
  refine (toStored_tells x.f0 (by have := hb; simp only [b109] at this; omega)).mono fun k hk => ?_
  unfold laws_toSlot.f
  rw [hk]
  rfl
theorem toSlotS_tells (l : List S109) (hb : l.length + (l.map b109).sum ≤ 1048576) : Kit.Late fun k => laws_toSlotS.f k l = some (l.map cv109) := by
  have e : ∀ k : Nat, laws_toSlotS.f k l = laws_toSlotS.l0 k l (List.replicate l.length z87) 0 := fun k => by
    unfold laws_toSlotS.f
    rw [if_pos (by omega), if_pos (by rw [Int.toNat_natCast]; omega), Int.toNat_natCast]
  simp only [e]
  exact Kit.to_list laws_toSlotS.l0 (fun k x => laws_toSlot.f k x.f0.f0 x.f0.f1 x.f0.f2.f0 x.f0.f2.f1 x.f0.f2.f2 x.f0.f3 x.f0.f4 x.f1) (fun y => (⟨(⟨y.1, y.2.1, (⟨y.2.2.1, y.2.2.2.1, y.2.2.2.2.1⟩ : S27), y.2.2.2.2.2.1, y.2.2.2.2.2.2.1⟩ : S85), y.2.2.2.2.2.2.2⟩ : S87)) (fun x => ((cv109 x).f0.f0, (cv109 x).f0.f1, (cv109 x).f0.f2.f0, (cv109 x).f0.f2.f1, (cv109 x).f0.f2.f2, (cv109 x).f0.f3, (cv109 x).f0.f4, (cv109 x).f1)) rd_T109 (fun _ _ _ _ => rfl) (fun l i h => Kit.getD_at l _ i h) l (by omega) (fun x hx => toSlot_tells x (by have := Kit.le_sum b109 l x hx; omega)) l.length 0 _ (by omega) (by simp)
def cv59 (x : S59) : S51 := ⟨x.f0, x.f1, x.f2.map cv109, x.f3⟩
theorem cv59_bulk (x : S59) : b51 (cv59 x) = b59 x := by
  simp [b51, b59, cv59, cv109_bulk, Function.comp_def]
theorem cv59_M (x : S59) (hx : F59 x) : M51 (cv59 x) := by
  exact ⟨by rw [show (cv59 x).f2 = x.f2.map cv109 from rfl, List.length_map]; exact (hx.2.2.1).1, fun y hy => by obtain ⟨z, hz, rfl⟩ := List.mem_map.mp hy; exact cv109_M z ((hx.2.2.1).2 z hz)⟩
theorem toShard_tells (x : S59) (hb : b59 x ≤ 1048576) : Kit.Late fun k => laws_toShard.f k x.f0 x.f1 x.f2 x.f3 = some ((cv59 x).f0, (cv59 x).f1, (cv59 x).f2, (cv59 x).f3) := by
  refine (toSlotS_tells x.f2 (by have := hb; simp only [b59] at this; omega)).mono fun k hk => ?_
  unfold laws_toShard.f
  rw [hk]
  rfl
end Go.Proofs.Ytlhnhilaeoegoaa.QFnExactSameShard
