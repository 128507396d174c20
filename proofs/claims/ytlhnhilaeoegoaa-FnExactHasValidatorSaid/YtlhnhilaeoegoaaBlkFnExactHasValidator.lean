-- Written by own.py, a program of this session's own, which calls the kit's print. Lean checks it.
import Derived.Test.YtlhnhilaeoegoaaQFnExactHasValidatorx2
import Derived.Test.YtlhnhilaeoegoaaKit
set_option linter.unusedVariables false
set_option linter.unusedSimpArgs false
namespace Go.Proofs.Ytlhnhilaeoegoaa.QFnExactHasValidator
open Go.RowKit Go.Proofs.YtlhnhilaeoegoaaW.PrintWords Go.Proofs.YtlhnhilaeoegoaaW.PrintLast
def b95 (x : S95) : Nat := x.f0.size + (x.f1.size + 0)
def M95 (x : S95) : Prop := True
theorem eqField_refl (x : S95) : Kit.Late fun k => laws_eqField.f x.f0 x.f1 x.f0 x.f1 = some true := Kit.Late.all fun k => by unfold laws_eqField.f; simp
theorem eqFieldS_refl (l : List S95) (hl : l.length ≤ 9223372036854775807 ∧ ∀ y ∈ l, M95 y) : Kit.Late fun k => laws_eqFieldS.f k l l = some true := by
  have e : ∀ k : Nat, laws_eqFieldS.f k l l = laws_eqFieldS.l0 k l l 0 := fun k => by unfold laws_eqFieldS.f; rw [if_pos rfl]
  simp only [e]
  exact Kit.eq_list laws_eqFieldS.l0 (fun k x y => laws_eqField.f x.f0 x.f1 y.f0 y.f1) rd_T95 (fun _ _ _ _ => rfl) (fun l i h => Kit.getD_at l _ i h) l hl.1 (fun x hx => eqField_refl x) l.length 0 (by omega)
structure S27 where
  f0 : Int
  f1 : List (S95)
  f2 : ByteArray
def b27 (x : S27) : Nat := (x.f1.length + (x.f1.map b95).sum) + (x.f2.size + 0)
def M27 (x : S27) : Prop := (x.f1.length ≤ 9223372036854775807 ∧ ∀ y ∈ x.f1, M95 y)
theorem eqResponse_refl (x : S27) (hx : M27 x) : Kit.Late fun k => laws_eqResponse.f k x.f0 x.f1 x.f2 x.f0 x.f1 x.f2 = some true := by
  refine (eqFieldS_refl x.f1 hx).mono fun k hk => ?_
  unfold laws_eqResponse.f
  simp [hk]
def b103 (x : S103) : Nat := x.f0.size + (x.f1.size + 0)
def M103 (x : S103) : Prop := True
theorem szField_tells (x : S103) (hx : F103 x) (left : Int) (h0 : 0 ≤ left) (h1 : left ≤ 1048576) : Kit.Late fun k => laws_szField.f x.f0 x.f1 left = some (Kit.szr left (b103 x)) := by
  have e : laws_szField.f x.f0 x.f1 left = Kit.szs left x.f0.size fun t1 => Kit.szs t1 x.f1.size fun t2 => some t2 := rfl
  simp only [e]
  exact Kit.szs_eval h0 h1 hx.1 fun g1 => Kit.szs_eval (by omega) (by omega) hx.2 fun g2 => Kit.sz_end (by omega)
theorem szFieldS_tells (l : List S103) (hl : Opn.Fsl F103 l) (left : Int) (h0 : 0 ≤ left) (h1 : left ≤ 1048576) : Kit.Late fun k => laws_szFieldS.f k l left = some (Kit.szr left (l.length + (l.map b103).sum)) := by
  have e : ∀ k : Nat, laws_szFieldS.f k l left = Kit.szs left l.length fun t => laws_szFieldS.l0 k l t 0 := fun k => rfl
  simp only [e]
  exact Kit.szs_eval h0 h1 hl.1 fun g => Kit.sz_list laws_szFieldS.l0 (fun k x t => laws_szField.f x.f0 x.f1 t) b103 rd_T103 (fun _ _ _ _ => rfl) (fun l i h => Kit.getD_at l _ i h) l hl.1 (fun x hx t h0 h1 => szField_tells x (hl.2 x hx) t h0 h1) l.length 0 _ (by omega) (by omega) (by omega)
def b44 (x : S44) : Nat := (x.f1.length + (x.f1.map b103).sum) + (x.f2.size + 0)
def M44 (x : S44) : Prop := (x.f1.length ≤ 9223372036854775807 ∧ ∀ y ∈ x.f1, M103 y)
theorem szResponse_tells (x : S44) (hx : F44 x) (left : Int) (h0 : 0 ≤ left) (h1 : left ≤ 1048576) : Kit.Late fun k => laws_szResponse.f k x.f0 x.f1 x.f2 left = some (Kit.szr left (b44 x)) := by
  have e : ∀ k : Nat, laws_szResponse.f k x.f0 x.f1 x.f2 left = Kit.szc (laws_szFieldS.f k x.f1 left) fun t1 => Kit.szs t1 x.f2.size fun t2 => some t2 := fun k => rfl
  simp only [e]
  exact Kit.szc_eval (szFieldS_tells x.f1 hx.2.1 _ (by omega) (by omega)) fun g1 => Kit.szs_eval (by omega) (by omega) hx.2.2 fun g2 => Kit.sz_end (by omega)
def cv103 (x : S103) : S95 := ⟨x.f0, x.f1⟩
theorem cv103_bulk (x : S103) : b95 (cv103 x) = b103 x := by
  simp [b95, b103, cv103]
theorem cv103_M (x : S103) (hx : F103 x) : M95 (cv103 x) := by
  exact trivial
theorem toField_tells (x : S103) (hb : b103 x ≤ 1048576) : Kit.Late fun k => laws_toField.f x.f0 x.f1 = some ((cv103 x).f0, (cv103 x).f1) := Kit.Late.all fun k => rfl
theorem toFieldS_tells (l : List S103) (hb : l.length + (l.map b103).sum ≤ 1048576) : Kit.Late fun k => laws_toFieldS.f k l = some (l.map cv103) := by
  have e : ∀ k : Nat, laws_toFieldS.f k l = laws_toFieldS.l0 k l (List.replicate l.length z95) 0 := fun k => by
    unfold laws_toFieldS.f
    rw [if_pos (by omega), if_pos (by rw [Int.toNat_natCast]; omega), Int.toNat_natCast]
  simp only [e]
  exact Kit.to_list laws_toFieldS.l0 (fun k x => laws_toField.f x.f0 x.f1) (fun y => (⟨y.1, y.2⟩ : S95)) (fun x => ((cv103 x).f0, (cv103 x).f1)) rd_T103 (fun _ _ _ _ => rfl) (fun l i h => Kit.getD_at l _ i h) l (by omega) (fun x hx => toField_tells x (by have := Kit.le_sum b103 l x hx; omega)) l.length 0 _ (by omega) (by simp)
def cv44 (x : S44) : S27 := ⟨x.f0, x.f1.map cv103, x.f2⟩
theorem cv44_bulk (x : S44) : b27 (cv44 x) = b44 x := by
  simp [b27, b44, cv44, cv103_bulk, Function.comp_def]
theorem cv44_M (x : S44) (hx : F44 x) : M27 (cv44 x) := by
  exact ⟨by rw [show (cv44 x).f1 = x.f1.map cv103 from rfl, List.length_map]; exact (hx.2.1).1, fun y hy => by obtain ⟨z, hz, rfl⟩ := List.mem_map.mp hy; exact cv103_M z ((hx.2.1).2 z hz)⟩
theorem toResponse_tells (x : S44) (hb : b44 x ≤ 1048576) : Kit.Late fun k => laws_toResponse.f k x.f0 x.f1 x.f2 = some ((cv44 x).f0, (cv44 x).f1, (cv44 x).f2) := by
  refine (toFieldS_tells x.f1 (by have := hb; simp only [b44] at this; omega)).mono fun k hk => ?_
  unfold laws_toResponse.f
  rw [hk]
  rfl
end Go.Proofs.Ytlhnhilaeoegoaa.QFnExactHasValidator
