-- Written by own.py, a program of this session's own, which calls the kit's print. Lean checks it.
import Derived.Test.YtlhnhilaeoegoaaQFnExactSameOriginx6
import Derived.Test.YtlhnhilaeoegoaaKit
set_option linter.unusedVariables false
set_option linter.unusedSimpArgs false
namespace Go.Proofs.Ytlhnhilaeoegoaa.QFnExactSameOrigin
open Go.RowKit Go.Proofs.YtlhnhilaeoegoaaW.PrintWords Go.Proofs.YtlhnhilaeoegoaaW.PrintLast
def b103 (x : S103) : Nat := x.f0.size + (x.f1.size + 0)
def M103 (x : S103) : Prop := True
theorem szField_tells (x : S103) (hx : F103 x) (left : Int) (h0 : 0 ≤ left) (h1 : left ≤ 1048576) : Kit.Late fun k => laws_szField.f x.f0 x.f1 left = some (Kit.szr left (b103 x)) := by
  have e : laws_szField.f x.f0 x.f1 left = Kit.szs left x.f0.size fun t1 => Kit.szs t1 x.f1.size fun t2 => some t2 := rfl
  simp only [e]
  exact Kit.szs_eval h0 h1 hx.1 fun g1 => Kit.szs_eval (by omega) (by omega) hx.2 fun g2 => Kit.sz_end (by omega)
theorem szFieldS_tells (l : List S103) (hl : Opn.Fsl F103 l) (left : Int) (h0 : 0 ≤ left) (h1 : left ≤ 1048576) : Kit.Late fun k => laws_szFieldS.f k l left = some (Kit.szr left (l.length + (l.map b103).sum)) := by
  have e : ∀ k : Nat, laws_szFieldS.f k l left = Kit.szs left l.length fun t => laws_szFieldS.l0 k l t 0 := fun k => rfl
  simp only [e]
  exact Kit.szs_eval h0 h1 hl.1 fun g => Kit.sz_list laws_szFieldS.l0 (fun k x t => laws_szField.f x.f0 x.f1 t) b103 rd_T103 (fun _ _ _ _ => rfl) (fun l i h => Kit.getD_at l _ i h) l hl.1 (fun x hx t h0 h1 => szField_tells x (hl.2 x hx) t h0 h1) l.length 0 _ (by omega) (by omega) (by omega)
def b98 (x : S98) : Nat := x.f0.size + (x.f1.size + ((x.f6.length + (x.f6.map b103).sum) + 0))
def M98 (x : S98) : Prop := (x.f6.length ≤ 9223372036854775807 ∧ ∀ y ∈ x.f6, M103 y)
theorem szRes_tells (x : S98) (hx : F98 x) (left : Int) (h0 : 0 ≤ left) (h1 : left ≤ 1048576) : Kit.Late fun k => laws_szRes.f k x.f0 x.f1 x.f2 x.f3 x.f4 x.f5 x.f6 left = some (Kit.szr left (b98 x)) := by
  have e : ∀ k : Nat, laws_szRes.f k x.f0 x.f1 x.f2 x.f3 x.f4 x.f5 x.f6 left = Kit.szs left x.f0.size fun t1 => Kit.szs t1 x.f1.size fun t2 => Kit.szc (laws_szFieldS.f k x.f6 t2) fun t3 => some t3 := fun k => rfl
  simp only [e]
  exact Kit.szs_eval h0 h1 hx.1 fun g1 => Kit.szs_eval (by omega) (by omega) hx.2.1 fun g2 => Kit.szc_eval (szFieldS_tells x.f6 hx.2.2.2.2.2.2 _ (by omega) (by omega)) fun g3 => Kit.sz_end (by omega)
theorem szResS_tells (l : List S98) (hl : Opn.Fsl F98 l) (left : Int) (h0 : 0 ≤ left) (h1 : left ≤ 1048576) : Kit.Late fun k => laws_szResS.f k l left = some (Kit.szr left (l.length + (l.map b98).sum)) := by
  have e : ∀ k : Nat, laws_szResS.f k l left = Kit.szs left l.length fun t => laws_szResS.l0 k l t 0 := fun k => rfl
  simp only [e]
  exact Kit.szs_eval h0 h1 hl.1 fun g => Kit.sz_list laws_szResS.l0 (fun k x t => laws_szRes.f k x.f0 x.f1 x.f2 x.f3 x.f4 x.f5 x.f6 t) b98 rd_T98 (fun _ _ _ _ => rfl) (fun l i h => Kit.getD_at l _ i h) l hl.1 (fun x hx t h0 h1 => szRes_tells x (hl.2 x hx) t h0 h1) l.length 0 _ (by omega) (by omega) (by omega)
def b33 (x : S33) : Nat := (x.f0.length + (x.f0.map b98).sum) + 0
def M33 (x : S33) : Prop := (x.f0.length ≤ 9223372036854775807 ∧ ∀ y ∈ x.f0, M98 y)
theorem szOrigin_tells (x : S33) (hx : F33 x) (left : Int) (h0 : 0 ≤ left) (h1 : left ≤ 1048576) : Kit.Late fun k => laws_szOrigin.f k x.f0 left = some (Kit.szr left (b33 x)) := by
  have e : ∀ k : Nat, laws_szOrigin.f k x.f0 left = Kit.szc (laws_szResS.f k x.f0 left) fun t1 => some t1 := fun k => rfl
  simp only [e]
  exact Kit.szc_eval (szResS_tells x.f0 hx _ (by omega) (by omega)) fun g1 => Kit.sz_end (by omega)
def b95 (x : S95) : Nat := x.f0.size + (x.f1.size + 0)
def M95 (x : S95) : Prop := True
def cv103 (x : S103) : S95 := ⟨x.f0, x.f1⟩
theorem cv103_bulk (x : S103) : b95 (cv103 x) = b103 x := by
  simp [b95, b103, cv103]
theorem cv103_M (x : S103) (hx : F103 x) : M95 (cv103 x) := by
  exact trivial
theorem toField_tells (x : S103) (hb : b103 x ≤ 1048576) : Kit.Late fun k => laws_toField.f x.f0 x.f1 = some ((cv103 x).f0, (cv103 x).f1) := Kit.Late.all fun k => rfl
theorem toFieldS_tells (l : List S103) (hb : l.length + (l.map b103).sum ≤ 1048576) : Kit.Late fun k => laws_toFieldS.f k l = some (l.map cv103) := by
  have e : ∀ k : Nat, laws_toFieldS.f k l = laws_toFieldS.l0 k l (List.replicate l.length z95) 0 := fun k => by
    unfold laws_toFieldS.f
    rw [if_pos (by omega), if_pos (by rw [Int.toNat_natCast]; omega), Int.toNat_natCast]
  simp only [e]
  exact Kit.to_list laws_toFieldS.l0 (fun k x => laws_toField.f x.f0 x.f1) (fun y => (⟨y.1, y.2⟩ : S95)) (fun x => ((cv103 x).f0, (cv103 x).f1)) rd_T103 (fun _ _ _ _ => rfl) (fun l i h => Kit.getD_at l _ i h) l (by omega) (fun x hx => toField_tells x (by have := Kit.le_sum b103 l x hx; omega)) l.length 0 _ (by omega) (by simp)
def b71 (x : S71) : Nat := x.f0.size + (x.f1.size + ((x.f6.length + (x.f6.map b95).sum) + 0))
def M71 (x : S71) : Prop := (x.f6.length ≤ 9223372036854775807 ∧ ∀ y ∈ x.f6, M95 y)
def cv98 (x : S98) : S71 := ⟨x.f0, x.f1, x.f2, x.f3, x.f4, x.f5, x.f6.map cv103⟩
theorem cv98_bulk (x : S98) : b71 (cv98 x) = b98 x := by
  simp [b71, b98, cv98, cv103_bulk, Function.comp_def]
theorem cv98_M (x : S98) (hx : F98 x) : M71 (cv98 x) := by
  exact ⟨by rw [show (cv98 x).f6 = x.f6.map cv103 from rfl, List.length_map]; exact (hx.2.2.2.2.2.2).1, fun y hy => by obtain ⟨z, hz, rfl⟩ := List.mem_map.mp hy; exact cv103_M z ((hx.2.2.2.2.2.2).2 z hz)⟩
theorem toRes_tells (x : S98) (hb : b98 x ≤ 1048576) : Kit.Late fun k => laws_toRes.f k x.f0 x.f1 x.f2 x.f3 x.f4 x.f5 x.f6 = some ((cv98 x).f0, (cv98 x).f1, (cv98 x).f2, (cv98 x).f3, (cv98 x).f4, (cv98 x).f5, (cv98 x).f6) := by
  refine (toFieldS_tells x.f6 (by have := hb; simp only [b98] at this; omega)).mono fun k hk => ?_
  unfold laws_toRes.f
  rw [hk]
  rfl
theorem toResS_tells (l : List S98) (hb : l.length + (l.map b98).sum ≤ 1048576) : Kit.Late fun k => laws_toResS.f k l = some (l.map cv98) := by
  have e : ∀ k : Nat, laws_toResS.f k l = laws_toResS.l0 k l (List.replicate l.length z71) 0 := fun k => by
    unfold laws_toResS.f
    rw [if_pos (by omega), if_pos (by rw [Int.toNat_natCast]; omega), Int.toNat_natCast]
  simp only [e]
  exact Kit.to_list laws_toResS.l0 (fun k x => laws_toRes.f k x.f0 x.f1 x.f2 x.f3 x.f4 x.f5 x.f6) (fun y => (⟨y.1, y.2.1, y.2.2.1, y.2.2.2.1, y.2.2.2.2.1, y.2.2.2.2.2.1, y.2.2.2.2.2.2⟩ : S71)) (fun x => ((cv98 x).f0, (cv98 x).f1, (cv98 x).f2, (cv98 x).f3, (cv98 x).f4, (cv98 x).f5, (cv98 x).f6)) rd_T98 (fun _ _ _ _ => rfl) (fun l i h => Kit.getD_at l _ i h) l (by omega) (fun x hx => toRes_tells x (by have := Kit.le_sum b98 l x hx; omega)) l.length 0 _ (by omega) (by simp)
structure S38 where
  f0 : List (S71)
def b38 (x : S38) : Nat := (x.f0.length + (x.f0.map b71).sum) + 0
def M38 (x : S38) : Prop := (x.f0.length ≤ 9223372036854775807 ∧ ∀ y ∈ x.f0, M71 y)
def cv33 (x : S33) : S38 := ⟨x.f0.map cv98⟩
theorem cv33_bulk (x : S33) : b38 (cv33 x) = b33 x := by
  simp [b38, b33, cv33, cv98_bulk, Function.comp_def]
theorem cv33_M (x : S33) (hx : F33 x) : M38 (cv33 x) := by
  exact ⟨by rw [show (cv33 x).f0 = x.f0.map cv98 from rfl, List.length_map]; exact (hx).1, fun y hy => by obtain ⟨z, hz, rfl⟩ := List.mem_map.mp hy; exact cv98_M z ((hx).2 z hz)⟩
theorem toOrigin_tells (x : S33) (hb : b33 x ≤ 1048576) : Kit.Late fun k => laws_toOrigin.f k x.f0 = some (cv33 x).f0 := by
  refine (toResS_tells x.f0 (by have := hb; simp only [b33] at this; omega)).mono fun k hk => ?_
  unfold laws_toOrigin.f
  rw [hk]
  rfl
theorem eqField_refl (x : S95) : Kit.Late fun k => laws_eqField.f x.f0 x.f1 x.f0 x.f1 = some true := Kit.Late.all fun k => by unfold laws_eqField.f; simp
theorem eqFieldS_refl (l : List S95) (hl : l.length ≤ 9223372036854775807 ∧ ∀ y ∈ l, M95 y) : Kit.Late fun k => laws_eqFieldS.f k l l = some true := by
  have e : ∀ k : Nat, laws_eqFieldS.f k l l = laws_eqFieldS.l0 k l l 0 := fun k => by unfold laws_eqFieldS.f; rw [if_pos rfl]
  simp only [e]
  exact Kit.eq_list laws_eqFieldS.l0 (fun k x y => laws_eqField.f x.f0 x.f1 y.f0 y.f1) rd_T95 (fun _ _ _ _ => rfl) (fun l i h => Kit.getD_at l _ i h) l hl.1 (fun x hx => eqField_refl x) l.length 0 (by omega)
theorem eqRes_refl (x : S71) (hx : M71 x) : Kit.Late fun k => laws_eqRes.f k x.f0 x.f1 x.f2 x.f3 x.f4 x.f5 x.f6 x.f0 x.f1 x.f2 x.f3 x.f4 x.f5 x.f6 = some true := by
  refine (eqFieldS_refl x.f6 hx).mono fun k hk => ?_
  unfold laws_eqRes.f
  simp [hk]
theorem eqResS_refl (l : List S71) (hl : l.length ≤ 9223372036854775807 ∧ ∀ y ∈ l, M71 y) : Kit.Late fun k => laws_eqResS.f k l l = some true := by
  have e : ∀ k : Nat, laws_eqResS.f k l l = laws_eqResS.l0 k l l 0 := fun k => by unfold laws_eqResS.f; rw [if_pos rfl]
  simp only [e]
  exact Kit.eq_list laws_eqResS.l0 (fun k x y => laws_eqRes.f k x.f0 x.f1 x.f2 x.f3 x.f4 x.f5 x.f6 y.f0 y.f1 y.f2 y.f3 y.f4 y.f5 y.f6) rd_T71 (fun _ _ _ _ => rfl) (fun l i h => Kit.getD_at l _ i h) l hl.1 (fun x hx => eqRes_refl x (hl.2 x hx)) l.length 0 (by omega)
theorem eqOrigin_refl (x : S38) (hx : M38 x) : Kit.Late fun k => laws_eqOrigin.f k x.f0 x.f0 = some true := by
  refine (eqResS_refl x.f0 hx).mono fun k hk => ?_
  unfold laws_eqOrigin.f
  simp [hk]
end Go.Proofs.Ytlhnhilaeoegoaa.QFnExactSameOrigin
