-- Written by own.py, a program of this session's own, which calls the kit's print. Lean checks it.
import Derived.Test.YthbmemimpakljaaQFnExactSameCachex13
import Derived.Test.YthbmemimpakljaaKit
set_option linter.unusedVariables false
set_option linter.unusedSimpArgs false
namespace Go.Proofs.Ythbmemimpakljaa.QFnExactSameCache
open Go.RowKit Go.Proofs.YthbmemimpakljaaW.PrintWords Go.Proofs.YthbmemimpakljaaW.PrintLast
def b110 (x : S110) : Nat := x.f0.size + (x.f1.size + 0)
def M110 (x : S110) : Prop := True
theorem szField_tells (x : S110) (hx : F110 x) (left : Int) (h0 : 0 ≤ left) (h1 : left ≤ 1048576) : Kit.Late fun k => laws_szField.f x.f0 x.f1 left = some (Kit.szr left (b110 x)) := by
  have e : laws_szField.f x.f0 x.f1 left = Kit.szs left x.f0.size fun t1 => Kit.szs t1 x.f1.size fun t2 => some t2 := rfl
  simp only [e]
  exact Kit.szs_eval h0 h1 hx.1 fun g1 => Kit.szs_eval (by omega) (by omega) hx.2 fun g2 => Kit.sz_end (by omega)
theorem szFieldS_tells (l : List S110) (hl : Opn.Fsl F110 l) (left : Int) (h0 : 0 ≤ left) (h1 : left ≤ 1048576) : Kit.Late fun k => laws_szFieldS.f k l left = some (Kit.szr left (l.length + (l.map b110).sum)) := by
  have e : ∀ k : Nat, laws_szFieldS.f k l left = Kit.szs left l.length fun t => laws_szFieldS.l0 k l t 0 := fun k => rfl
  simp only [e]
  exact Kit.szs_eval h0 h1 hl.1 fun g => Kit.sz_list laws_szFieldS.l0 (fun k x t => laws_szField.f x.f0 x.f1 t) b110 rd_T110 (fun _ _ _ _ => rfl) (fun l i h => Kit.getD_at l _ i h) l hl.1 (fun x hx t h0 h1 => szField_tells x (hl.2 x hx) t h0 h1) l.length 0 _ (by omega) (by omega) (by omega)
def b38 (x : S38) : Nat := (x.f1.length + (x.f1.map b110).sum) + (x.f2.size + 0)
def M38 (x : S38) : Prop := (x.f1.length ≤ 9223372036854775807 ∧ ∀ y ∈ x.f1, M110 y)
theorem szResponse_tells (x : S38) (hx : F38 x) (left : Int) (h0 : 0 ≤ left) (h1 : left ≤ 1048576) : Kit.Late fun k => laws_szResponse.f k x.f0 x.f1 x.f2 left = some (Kit.szr left (b38 x)) := by
  have e : ∀ k : Nat, laws_szResponse.f k x.f0 x.f1 x.f2 left = Kit.szc (laws_szFieldS.f k x.f1 left) fun t1 => Kit.szs t1 x.f2.size fun t2 => some t2 := fun k => rfl
  simp only [e]
  exact Kit.szc_eval (szFieldS_tells x.f1 hx.2.1 _ (by omega) (by omega)) fun g1 => Kit.szs_eval (by omega) (by omega) hx.2.2 fun g2 => Kit.sz_end (by omega)
def b157 (x : S157) : Nat := x.f0.size + ((x.f1.length + (x.f1.map b110).sum) + (b38 x.f2 + 0))
def M157 (x : S157) : Prop := (x.f1.length ≤ 9223372036854775807 ∧ ∀ y ∈ x.f1, M110 y) ∧ M38 x.f2
theorem szStored_tells (x : S157) (hx : F157 x) (left : Int) (h0 : 0 ≤ left) (h1 : left ≤ 1048576) : Kit.Late fun k => laws_szStored.f k x.f0 x.f1 x.f2.f0 x.f2.f1 x.f2.f2 x.f3 x.f4 left = some (Kit.szr left (b157 x)) := by
  have e : ∀ k : Nat, laws_szStored.f k x.f0 x.f1 x.f2.f0 x.f2.f1 x.f2.f2 x.f3 x.f4 left = Kit.szs left x.f0.size fun t1 => Kit.szc (laws_szFieldS.f k x.f1 t1) fun t2 => Kit.szc (laws_szResponse.f k x.f2.f0 x.f2.f1 x.f2.f2 t2) fun t3 => some t3 := fun k => rfl
  simp only [e]
  exact Kit.szs_eval h0 h1 hx.1 fun g1 => Kit.szc_eval (szFieldS_tells x.f1 hx.2.1 _ (by omega) (by omega)) fun g2 => Kit.szc_eval (szResponse_tells x.f2 hx.2.2.1 _ (by omega) (by omega)) fun g3 => Kit.sz_end (by omega)
def b159 (x : S159) : Nat := b157 x.f0 + 0
def M159 (x : S159) : Prop := M157 x.f0
theorem szSlot_tells (x : S159) (hx : F159 x) (left : Int) (h0 : 0 ≤ left) (h1 : left ≤ 1048576) : Kit.Late fun k => laws_szSlot.f k x.f0.f0 x.f0.f1 x.f0.f2.f0 x.f0.f2.f1 x.f0.f2.f2 x.f0.f3 x.f0.f4 x.f1 left = some (Kit.szr left (b159 x)) := by
  have e : ∀ k : Nat, laws_szSlot.f k x.f0.f0 x.f0.f1 x.f0.f2.f0 x.f0.f2.f1 x.f0.f2.f2 x.f0.f3 x.f0.f4 x.f1 left = Kit.szc (laws_szStored.f k x.f0.f0 x.f0.f1 x.f0.f2.f0 x.f0.f2.f1 x.f0.f2.f2 x.f0.f3 x.f0.f4 left) fun t1 => some t1 := fun k => rfl
  simp only [e]
  exact Kit.szc_eval (szStored_tells x.f0 hx.1 _ (by omega) (by omega)) fun g1 => Kit.sz_end (by omega)
theorem szSlotS_tells (l : List S159) (hl : Opn.Fsl F159 l) (left : Int) (h0 : 0 ≤ left) (h1 : left ≤ 1048576) : Kit.Late fun k => laws_szSlotS.f k l left = some (Kit.szr left (l.length + (l.map b159).sum)) := by
  have e : ∀ k : Nat, laws_szSlotS.f k l left = Kit.szs left l.length fun t => laws_szSlotS.l0 k l t 0 := fun k => rfl
  simp only [e]
  exact Kit.szs_eval h0 h1 hl.1 fun g => Kit.sz_list laws_szSlotS.l0 (fun k x t => laws_szSlot.f k x.f0.f0 x.f0.f1 x.f0.f2.f0 x.f0.f2.f1 x.f0.f2.f2 x.f0.f3 x.f0.f4 x.f1 t) b159 rd_T159 (fun _ _ _ _ => rfl) (fun l i h => Kit.getD_at l _ i h) l hl.1 (fun x hx t h0 h1 => szSlot_tells x (hl.2 x hx) t h0 h1) l.length 0 _ (by omega) (by omega) (by omega)
def b120 (x : S120) : Nat := (x.f2.length + (x.f2.map b159).sum) + 0
def M120 (x : S120) : Prop := (x.f2.length ≤ 9223372036854775807 ∧ ∀ y ∈ x.f2, M159 y)
theorem szShard_tells (x : S120) (hx : F120 x) (left : Int) (h0 : 0 ≤ left) (h1 : left ≤ 1048576) : Kit.Late fun k => laws_szShard.f k x.f0 x.f1 x.f2 x.f3 left = some (Kit.szr left (b120 x)) := by
  have e : ∀ k : Nat, laws_szShard.f k x.f0 x.f1 x.f2 x.f3 left = Kit.szc (laws_szSlotS.f k x.f2 left) fun t1 => some t1 := fun k => rfl
  simp only [e]
  exact Kit.szc_eval (szSlotS_tells x.f2 hx.2.2.1 _ (by omega) (by omega)) fun g1 => Kit.sz_end (by omega)
theorem szShardS_tells (l : List S120) (hl : Opn.Fsl F120 l) (left : Int) (h0 : 0 ≤ left) (h1 : left ≤ 1048576) : Kit.Late fun k => laws_szShardS.f k l left = some (Kit.szr left (l.length + (l.map b120).sum)) := by
  have e : ∀ k : Nat, laws_szShardS.f k l left = Kit.szs left l.length fun t => laws_szShardS.l0 k l t 0 := fun k => rfl
  simp only [e]
  exact Kit.szs_eval h0 h1 hl.1 fun g => Kit.sz_list laws_szShardS.l0 (fun k x t => laws_szShard.f k x.f0 x.f1 x.f2 x.f3 t) b120 rd_T120 (fun _ _ _ _ => rfl) (fun l i h => Kit.getD_at l _ i h) l hl.1 (fun x hx t h0 h1 => szShard_tells x (hl.2 x hx) t h0 h1) l.length 0 _ (by omega) (by omega) (by omega)
def b122 (x : S122) : Nat := x.f0.size + 0
def M122 (x : S122) : Prop := True
theorem szGenRow_tells (x : S122) (hx : F122 x) (left : Int) (h0 : 0 ≤ left) (h1 : left ≤ 1048576) : Kit.Late fun k => laws_szGenRow.f x.f0 x.f1 left = some (Kit.szr left (b122 x)) := by
  have e : laws_szGenRow.f x.f0 x.f1 left = Kit.szs left x.f0.size fun t1 => some t1 := rfl
  simp only [e]
  exact Kit.szs_eval h0 h1 hx.1 fun g1 => Kit.sz_end (by omega)
theorem szGenRowS_tells (l : List S122) (hl : Opn.Fsl F122 l) (left : Int) (h0 : 0 ≤ left) (h1 : left ≤ 1048576) : Kit.Late fun k => laws_szGenRowS.f k l left = some (Kit.szr left (l.length + (l.map b122).sum)) := by
  have e : ∀ k : Nat, laws_szGenRowS.f k l left = Kit.szs left l.length fun t => laws_szGenRowS.l0 k l t 0 := fun k => rfl
  simp only [e]
  exact Kit.szs_eval h0 h1 hl.1 fun g => Kit.sz_list laws_szGenRowS.l0 (fun k x t => laws_szGenRow.f x.f0 x.f1 t) b122 rd_T122 (fun _ _ _ _ => rfl) (fun l i h => Kit.getD_at l _ i h) l hl.1 (fun x hx t h0 h1 => szGenRow_tells x (hl.2 x hx) t h0 h1) l.length 0 _ (by omega) (by omega) (by omega)
def b56 (x : S56) : Nat := (x.f0.length + (x.f0.map b120).sum) + ((x.f1.length + (x.f1.map b122).sum) + 0)
def M56 (x : S56) : Prop := (x.f0.length ≤ 9223372036854775807 ∧ ∀ y ∈ x.f0, M120 y) ∧ (x.f1.length ≤ 9223372036854775807 ∧ ∀ y ∈ x.f1, M122 y)
theorem szCache_tells (x : S56) (hx : F56 x) (left : Int) (h0 : 0 ≤ left) (h1 : left ≤ 1048576) : Kit.Late fun k => laws_szCache.f k x.f0 x.f1 left = some (Kit.szr left (b56 x)) := by
  have e : ∀ k : Nat, laws_szCache.f k x.f0 x.f1 left = Kit.szc (laws_szShardS.f k x.f0 left) fun t1 => Kit.szc (laws_szGenRowS.f k x.f1 t1) fun t2 => some t2 := fun k => rfl
  simp only [e]
  exact Kit.szc_eval (szShardS_tells x.f0 hx.1 _ (by omega) (by omega)) fun g1 => Kit.szc_eval (szGenRowS_tells x.f1 hx.2 _ (by omega) (by omega)) fun g2 => Kit.sz_end (by omega)
def b76 (x : S76) : Nat := x.f0.size + (x.f1.size + 0)
def M76 (x : S76) : Prop := True
def cv110 (x : S110) : S76 := ⟨x.f0, x.f1⟩
theorem cv110_bulk (x : S110) : b76 (cv110 x) = b110 x := by
  simp [b76, b110, cv110]
theorem cv110_M (x : S110) (hx : F110 x) : M76 (cv110 x) := by
  exact trivial
theorem toField_tells (x : S110) (hb : b110 x ≤ 1048576) : Kit.Late fun k => laws_toField.f x.f0 x.f1 = some ((cv110 x).f0, (cv110 x).f1) := Kit.Late.all fun k => rfl
theorem toFieldS_tells (l : List S110) (hb : l.length + (l.map b110).sum ≤ 1048576) : Kit.Late fun k => laws_toFieldS.f k l = some (l.map cv110) := by
  have e : ∀ k : Nat, laws_toFieldS.f k l = laws_toFieldS.l0 k l (List.replicate l.length z76) 0 := fun k => by
    unfold laws_toFieldS.f
    rw [if_pos (by omega), if_pos (by rw [Int.toNat_natCast]; omega), Int.toNat_natCast]
  simp only [e]
  exact Kit.to_list laws_toFieldS.l0 (fun k x => laws_toField.f x.f0 x.f1) (fun y => (⟨y.1, y.2⟩ : S76)) (fun x => ((cv110 x).f0, (cv110 x).f1)) rd_T110 (fun _ _ _ _ => rfl) (fun l i h => Kit.getD_at l _ i h) l (by omega) (fun x hx => toField_tells x (by have := Kit.le_sum b110 l x hx; omega)) l.length 0 _ (by omega) (by simp)
def b26 (x : S26) : Nat := (x.f1.length + (x.f1.map b76).sum) + (x.f2.size + 0)
def M26 (x : S26) : Prop := (x.f1.length ≤ 9223372036854775807 ∧ ∀ y ∈ x.f1, M76 y)
def cv38 (x : S38) : S26 := ⟨x.f0, x.f1.map cv110, x.f2⟩
theorem cv38_bulk (x : S38) : b26 (cv38 x) = b38 x := by
  simp [b26, b38, cv38, cv110_bulk, Function.comp_def]
theorem cv38_M (x : S38) (hx : F38 x) : M26 (cv38 x) := by
  exact ⟨by rw [show (cv38 x).f1 = x.f1.map cv110 from rfl, List.length_map]; exact (hx.2.1).1, fun y hy => by obtain ⟨z, hz, rfl⟩ := List.mem_map.mp hy; exact cv110_M z ((hx.2.1).2 z hz)⟩
theorem toResponse_tells (x : S38) (hb : b38 x ≤ 1048576) : Kit.Late fun k => laws_toResponse.f k x.f0 x.f1 x.f2 = some ((cv38 x).f0, (cv38 x).f1, (cv38 x).f2) := by
  refine (toFieldS_tells x.f1 (by have := hb; simp only [b38] at this; omega)).mono fun k hk => ?_
  unfold laws_toResponse.f
  rw [hk]
  rfl
def b28 (x : S28) : Nat := x.f0.size + ((x.f1.length + (x.f1.map b76).sum) + (b26 x.f2 + 0))
def M28 (x : S28) : Prop := (x.f1.length ≤ 9223372036854775807 ∧ ∀ y ∈ x.f1, M76 y) ∧ M26 x.f2
def cv157 (x : S157) : S28 := ⟨x.f0, x.f1.map cv110, cv38 x.f2, x.f3, x.f4⟩
theorem cv157_bulk (x : S157) : b28 (cv157 x) = b157 x := by
  simp [b28, b157, cv157, cv110_bulk, cv38_bulk, Function.comp_def]
theorem cv157_M (x : S157) (hx : F157 x) : M28 (cv157 x) := by
  exact ⟨⟨by rw [show (cv157 x).f1 = x.f1.map cv110 from rfl, List.length_map]; exact (hx.2.1).1, fun y hy => by obtain ⟨z, hz, rfl⟩ := List.mem_map.mp hy; exact cv110_M z ((hx.2.1).2 z hz)⟩, cv38_M x.f2 hx.2.2.1⟩
theorem toStored_tells (x : S157) (hb : b157 x ≤ 1048576) : Kit.Late fun k => laws_toStored.f k x.f0 x.f1 x.f2.f0 x.f2.f1 x.f2.f2 x.f3 x.f4 = some ((cv157 x).f0, (cv157 x).f1, (cv157 x).f2.f0, (cv157 x).f2.f1, (cv157 x).f2.f2, (cv157 x).f3, (cv157 x).f4) := by
  refine ((toFieldS_tells x.f1 (by have := hb; simp only [b157] at this; omega)).and (toResponse_tells x.f2 (by have := hb; simp only [b157] at this; omega))).mono fun k hk => ?_
  unfold laws_toStored.f
  rw [hk.1, hk.2]
  rfl
def b131 (x : S131) : Nat := b28 x.f0 + 0
def M131 (x : S131) : Prop := M28 x.f0
def cv159 (x : S159) : S131 := ⟨cv157 x.f0, x.f1⟩
theorem cv159_bulk (x : S159) : b131 (cv159 x) = b159 x := by
  simp [b131, b159, cv159, cv157_bulk]
theorem cv159_M (x : S159) (hx : F159 x) : M131 (cv159 x) := by
  exact cv157_M x.f0 hx.1
theorem toSlot_tells (x : S159) (hb : b159 x ≤ 1048576) : Kit.Late fun k => laws_toSlot.f k x.f0.f0 x.f0.f1 x.f0.f2.f0 x.f0.f2.f1 x.f0.f2.f2 x.f0.f3 x.f0.f4 x.f1 = some ((cv159 x).f0.f0, (cv159 x).f0.f1, (cv159 x).f0.f2.f0, (cv159 x).f0.f2.f1, (cv159 x).f0.f2.f2, (cv159 x).f0.f3, (cv159 x).f0.f4, (cv159 x).f1) := by
  refine (toStored_tells x.f0 (by have := hb; simp only [b159] at this; omega)).mono fun k hk => ?_
  unfold laws_toSlot.f
  rw [hk]
  rfl
theorem toSlotS_tells (l : List S159) (hb : l.length + (l.map b159).sum ≤ 1048576) : Kit.Late fun k => laws_toSlotS.f k l = some (l.map cv159) := by
  have e : ∀ k : Nat, laws_toSlotS.f k l = laws_toSlotS.l0 k l (List.replicate l.length z131) 0 := fun k => by
    unfold laws_toSlotS.f
    rw [if_pos (by omega), if_pos (by rw [Int.toNat_natCast]; omega), Int.toNat_natCast]
  simp only [e]
  exact Kit.to_list laws_toSlotS.l0 (fun k x => laws_toSlot.f k x.f0.f0 x.f0.f1 x.f0.f2.f0 x.f0.f2.f1 x.f0.f2.f2 x.f0.f3 x.f0.f4 x.f1) (fun y => (⟨(⟨y.1, y.2.1, (⟨y.2.2.1, y.2.2.2.1, y.2.2.2.2.1⟩ : S26), y.2.2.2.2.2.1, y.2.2.2.2.2.2.1⟩ : S28), y.2.2.2.2.2.2.2⟩ : S131)) (fun x => ((cv159 x).f0.f0, (cv159 x).f0.f1, (cv159 x).f0.f2.f0, (cv159 x).f0.f2.f1, (cv159 x).f0.f2.f2, (cv159 x).f0.f3, (cv159 x).f0.f4, (cv159 x).f1)) rd_T159 (fun _ _ _ _ => rfl) (fun l i h => Kit.getD_at l _ i h) l (by omega) (fun x hx => toSlot_tells x (by have := Kit.le_sum b159 l x hx; omega)) l.length 0 _ (by omega) (by simp)
def b97 (x : S97) : Nat := (x.f2.length + (x.f2.map b131).sum) + 0
def M97 (x : S97) : Prop := (x.f2.length ≤ 9223372036854775807 ∧ ∀ y ∈ x.f2, M131 y)
def cv120 (x : S120) : S97 := ⟨x.f0, x.f1, x.f2.map cv159, x.f3⟩
theorem cv120_bulk (x : S120) : b97 (cv120 x) = b120 x := by
  simp [b97, b120, cv120, cv159_bulk, Function.comp_def]
theorem cv120_M (x : S120) (hx : F120 x) : M97 (cv120 x) := by
  exact ⟨by rw [show (cv120 x).f2 = x.f2.map cv159 from rfl, List.length_map]; exact (hx.2.2.1).1, fun y hy => by obtain ⟨z, hz, rfl⟩ := List.mem_map.mp hy; exact cv159_M z ((hx.2.2.1).2 z hz)⟩
theorem toShard_tells (x : S120) (hb : b120 x ≤ 1048576) : Kit.Late fun k => laws_toShard.f k x.f0 x.f1 x.f2 x.f3 = some ((cv120 x).f0, (cv120 x).f1, (cv120 x).f2, (cv120 x).f3) := by
  refine (toSlotS_tells x.f2 (by have := hb; simp only [b120] at this; omega)).mono fun k hk => ?_
  unfold laws_toShard.f
  rw [hk]
  rfl
theorem toShardS_tells (l : List S120) (hb : l.length + (l.map b120).sum ≤ 1048576) : Kit.Late fun k => laws_toShardS.f k l = some (l.map cv120) := by
  have e : ∀ k : Nat, laws_toShardS.f k l = laws_toShardS.l0 k l (List.replicate l.length z97) 0 := fun k => by
    unfold laws_toShardS.f
    rw [if_pos (by omega), if_pos (by rw [Int.toNat_natCast]; omega), Int.toNat_natCast]
  simp only [e]
  exact Kit.to_list laws_toShardS.l0 (fun k x => laws_toShard.f k x.f0 x.f1 x.f2 x.f3) (fun y => (⟨y.1, y.2.1, y.2.2.1, y.2.2.2⟩ : S97)) (fun x => ((cv120 x).f0, (cv120 x).f1, (cv120 x).f2, (cv120 x).f3)) rd_T120 (fun _ _ _ _ => rfl) (fun l i h => Kit.getD_at l _ i h) l (by omega) (fun x hx => toShard_tells x (by have := Kit.le_sum b120 l x hx; omega)) l.length 0 _ (by omega) (by simp)
def b89 (x : S89) : Nat := x.f0.size + 0
def M89 (x : S89) : Prop := True
def cv122 (x : S122) : S89 := ⟨x.f0, x.f1⟩
theorem cv122_bulk (x : S122) : b89 (cv122 x) = b122 x := by
  simp [b89, b122, cv122]
theorem cv122_M (x : S122) (hx : F122 x) : M89 (cv122 x) := by
  exact trivial
theorem toGenRow_tells (x : S122) (hb : b122 x ≤ 1048576) : Kit.Late fun k => laws_toGenRow.f x.f0 x.f1 = some ((cv122 x).f0, (cv122 x).f1) := Kit.Late.all fun k => rfl
theorem toGenRowS_tells (l : List S122) (hb : l.length + (l.map b122).sum ≤ 1048576) : Kit.Late fun k => laws_toGenRowS.f k l = some (l.map cv122) := by
  have e : ∀ k : Nat, laws_toGenRowS.f k l = laws_toGenRowS.l0 k l (List.replicate l.length z89) 0 := fun k => by
    unfold laws_toGenRowS.f
    rw [if_pos (by omega), if_pos (by rw [Int.toNat_natCast]; omega), Int.toNat_natCast]
  simp only [e]
  exact Kit.to_list laws_toGenRowS.l0 (fun k x => laws_toGenRow.f x.f0 x.f1) (fun y => (⟨y.1, y.2⟩ : S89)) (fun x => ((cv122 x).f0, (cv122 x).f1)) rd_T122 (fun _ _ _ _ => rfl) (fun l i h => Kit.getD_at l _ i h) l (by omega) (fun x hx => toGenRow_tells x (by have := Kit.le_sum b122 l x hx; omega)) l.length 0 _ (by omega) (by simp)
structure S62 where
  f0 : List (S97)
  f1 : List (S89)
def b62 (x : S62) : Nat := (x.f0.length + (x.f0.map b97).sum) + ((x.f1.length + (x.f1.map b89).sum) + 0)
def M62 (x : S62) : Prop := (x.f0.length ≤ 9223372036854775807 ∧ ∀ y ∈ x.f0, M97 y) ∧ (x.f1.length ≤ 9223372036854775807 ∧ ∀ y ∈ x.f1, M89 y)
def cv56 (x : S56) : S62 := ⟨x.f0.map cv120, x.f1.map cv122⟩
theorem cv56_bulk (x : S56) : b62 (cv56 x) = b56 x := by
  simp [b62, b56, cv56, cv120_bulk, cv122_bulk, Function.comp_def]
theorem cv56_M (x : S56) (hx : F56 x) : M62 (cv56 x) := by
  exact ⟨⟨by rw [show (cv56 x).f0 = x.f0.map cv120 from rfl, List.length_map]; exact (hx.1).1, fun y hy => by obtain ⟨z, hz, rfl⟩ := List.mem_map.mp hy; exact cv120_M z ((hx.1).2 z hz)⟩, ⟨by rw [show (cv56 x).f1 = x.f1.map cv122 from rfl, List.length_map]; exact (hx.2).1, fun y hy => by obtain ⟨z, hz, rfl⟩ := List.mem_map.mp hy; exact cv122_M z ((hx.2).2 z hz)⟩⟩
theorem toCache_tells (x : S56) (hb : b56 x ≤ 1048576) : Kit.Late fun k => laws_toCache.f k x.f0 x.f1 = some ((cv56 x).f0, (cv56 x).f1) := by
  refine ((toShardS_tells x.f0 (by have := hb; simp only [b56] at this; omega)).and (toGenRowS_tells x.f1 (by have := hb; simp only [b56] at this; omega))).mono fun k hk => ?_
  unfold laws_toCache.f
  rw [hk.1, hk.2]
  rfl
theorem eqField_refl (x : S76) : Kit.Late fun k => laws_eqField.f x.f0 x.f1 x.f0 x.f1 = some true := Kit.Late.all fun k => by unfold laws_eqField.f; simp
theorem eqFieldS_refl (l : List S76) (hl : l.length ≤ 9223372036854775807 ∧ ∀ y ∈ l, M76 y) : Kit.Late fun k => laws_eqFieldS.f k l l = some true := by
  have e : ∀ k : Nat, laws_eqFieldS.f k l l = laws_eqFieldS.l0 k l l 0 := fun k => by unfold laws_eqFieldS.f; rw [if_pos rfl]
  simp only [e]
  exact Kit.eq_list laws_eqFieldS.l0 (fun k x y => laws_eqField.f x.f0 x.f1 y.f0 y.f1) rd_T76 (fun _ _ _ _ => rfl) (fun l i h => Kit.getD_at l _ i h) l hl.1 (fun x hx => eqField_refl x) l.length 0 (by omega)
theorem eqResponse_refl (x : S26) (hx : M26 x) : Kit.Late fun k => laws_eqResponse.f k x.f0 x.f1 x.f2 x.f0 x.f1 x.f2 = some true := by
  refine (eqFieldS_refl x.f1 hx).mono fun k hk => ?_
  unfold laws_eqResponse.f
  simp [hk]
theorem eqStored_refl (x : S28) (hx : M28 x) : Kit.Late fun k => laws_eqStored.f k x.f0 x.f1 x.f2.f0 x.f2.f1 x.f2.f2 x.f3 x.f4 x.f0 x.f1 x.f2.f0 x.f2.f1 x.f2.f2 x.f3 x.f4 = some true := by
  refine ((eqFieldS_refl x.f1 hx.1).and (eqResponse_refl x.f2 hx.2)).mono fun k hk => ?_
  unfold laws_eqStored.f
  simp [hk.1, hk.2]
theorem eqSlot_refl (x : S131) (hx : M131 x) : Kit.Late fun k => laws_eqSlot.f k x.f0.f0 x.f0.f1 x.f0.f2.f0 x.f0.f2.f1 x.f0.f2.f2 x.f0.f3 x.f0.f4 x.f1 x.f0.f0 x.f0.f1 x.f0.f2.f0 x.f0.f2.f1 x.f0.f2.f2 x.f0.f3 x.f0.f4 x.f1 = some true := by
  refine (eqStored_refl x.f0 hx).mono fun k hk => ?_
  unfold laws_eqSlot.f
  simp [hk]
theorem eqSlotS_refl (l : List S131) (hl : l.length ≤ 9223372036854775807 ∧ ∀ y ∈ l, M131 y) : Kit.Late fun k => laws_eqSlotS.f k l l = some true := by
  have e : ∀ k : Nat, laws_eqSlotS.f k l l = laws_eqSlotS.l0 k l l 0 := fun k => by unfold laws_eqSlotS.f; rw [if_pos rfl]
  simp only [e]
  exact Kit.eq_list laws_eqSlotS.l0 (fun k x y => laws_eqSlot.f k x.f0.f0 x.f0.f1 x.f0.f2.f0 x.f0.f2.f1 x.f0.f2.f2 x.f0.f3 x.f0.f4 x.f1 y.f0.f0 y.f0.f1 y.f0.f2.f0 y.f0.f2.f1 y.f0.f2.f2 y.f0.f3 y.f0.f4 y.f1) rd_T131 (fun _ _ _ _ => rfl) (fun l i h => Kit.getD_at l _ i h) l hl.1 (fun x hx => eqSlot_refl x (hl.2 x hx)) l.length 0 (by omega)
theorem eqShard_refl (x : S97) (hx : M97 x) : Kit.Late fun k => laws_eqShard.f k x.f0 x.f1 x.f2 x.f3 x.f0 x.f1 x.f2 x.f3 = some true := by
  refine (eqSlotS_refl x.f2 hx).mono fun k hk => ?_
  unfold laws_eqShard.f
  simp [hk]
theorem eqShardS_refl (l : List S97) (hl : l.length ≤ 9223372036854775807 ∧ ∀ y ∈ l, M97 y) : Kit.Late fun k => laws_eqShardS.f k l l = some true := by
  have e : ∀ k : Nat, laws_eqShardS.f k l l = laws_eqShardS.l0 k l l 0 := fun k => by unfold laws_eqShardS.f; rw [if_pos rfl]
  simp only [e]
  exact Kit.eq_list laws_eqShardS.l0 (fun k x y => laws_eqShard.f k x.f0 x.f1 x.f2 x.f3 y.f0 y.f1 y.f2 y.f3) rd_T97 (fun _ _ _ _ => rfl) (fun l i h => Kit.getD_at l _ i h) l hl.1 (fun x hx => eqShard_refl x (hl.2 x hx)) l.length 0 (by omega)
theorem eqGenRow_refl (x : S89) : Kit.Late fun k => laws_eqGenRow.f x.f0 x.f1 x.f0 x.f1 = some true := Kit.Late.all fun k => by unfold laws_eqGenRow.f; simp
theorem eqGenRowS_refl (l : List S89) (hl : l.length ≤ 9223372036854775807 ∧ ∀ y ∈ l, M89 y) : Kit.Late fun k => laws_eqGenRowS.f k l l = some true := by
  have e : ∀ k : Nat, laws_eqGenRowS.f k l l = laws_eqGenRowS.l0 k l l 0 := fun k => by unfold laws_eqGenRowS.f; rw [if_pos rfl]
  simp only [e]
  exact Kit.eq_list laws_eqGenRowS.l0 (fun k x y => laws_eqGenRow.f x.f0 x.f1 y.f0 y.f1) rd_T89 (fun _ _ _ _ => rfl) (fun l i h => Kit.getD_at l _ i h) l hl.1 (fun x hx => eqGenRow_refl x) l.length 0 (by omega)
theorem eqCache_refl (x : S62) (hx : M62 x) : Kit.Late fun k => laws_eqCache.f k x.f0 x.f1 x.f0 x.f1 = some true := by
  refine ((eqShardS_refl x.f0 hx.1).and (eqGenRowS_refl x.f1 hx.2)).mono fun k hk => ?_
  unfold laws_eqCache.f
  simp [hk.1, hk.2]
end Go.Proofs.Ythbmemimpakljaa.QFnExactSameCache
