/- HasValidator of the program (strings.Join over the values of a name) and of the reference (a loop) say the same; what was handed in stays. Conditions: none. -/
import Derived.Test.YtlhnhilaeoegoaaBlkFnExactHasValidator
import Derived.Test.YtlhnhilaeoegoaaPlain
namespace Go.Proofs.Ytlhnhilaeoegoaa.Pure
open Go.RowKit Go.Proofs.Ytlhnhilaeoegoaa.QFnExactHasValidator Go.Proofs.YtlhnhilaeoegoaaW.PrintWords Go.Proofs.YtlhnhilaeoegoaaW.PrintLast

def vs (l : List S95) (u : ByteArray) : List ByteArray := Kit.vals S95.f0 S95.f1 u l
theorem val_le (x : S95) : x.f1.size ≤ b95 x := by unfold b95; omega
theorem get_spec (l : List S95) (u : ByteArray) (hb : l.length + (l.map b95).sum ≤ 1048576) : Kit.Late fun k => spec_FieldGet.f k l u = some (Kit.joined (vs l u), decide (((vs l u).length : Int) > 0)) :=
  Kit.get_spec (fun k s t i => spec_FieldGet.l0 k l u s t i) S95.f0 S95.f1 rd_T95 u l (fun _ _ _ _ => rfl) (fun i h => Kit.getD_at l _ i h) b95 val_le hb
theorem get_impl (l : List S95) (u : ByteArray) (hb : l.length + (l.map b95).sum ≤ 1048576) : Kit.Late fun k => impl_FieldGet.f k l u = some (Kit.joined (vs l u), decide (((vs l u).length : Int) > 0)) := by
  refine Kit.get_impl (fun k s i => impl_FieldGet.l0 k u s l (l.length : Int) i) (fun s => strings_Join.f s (⟨#[44, 32]⟩ : ByteArray)) S95.f0 S95.f1 rd_T95 u l (fun _ _ _ => rfl) (fun i h => Kit.getD_at l _ i h) (by omega) ?_
  have h1 := Kit.vals_len S95.f0 S95.f1 u l
  have h2 := Kit.joined_len S95.f0 S95.f1 b95 val_le u l
  have e : (Kit.joined (Kit.vals S95.f0 S95.f1 u l)).size = (Lib.join ((Kit.vals S95.f0 S95.f1 u l).map (·.data.toList)) [44, 32]).length := by simp [Kit.joined, ByteArray.size]
  unfold strings_Join.f
  rw [if_pos ⟨by omega, by rw [e] at h2; show (Lib.join _ [44, 32]).length ≤ _; omega⟩]
  rfl
def hv (l : List S95) : Bool := decide (((vs l ⟨#[101, 116, 97, 103]⟩).length : Int) > 0) || decide (((vs l ⟨#[108, 97, 115, 116, 45, 109, 111, 100, 105, 102, 105, 101, 100]⟩).length : Int) > 0)
theorem has_spec (x : S27) (hb : b27 x ≤ 1048576) : Kit.Late fun k => spec_HasValidator.f k x.f0 x.f1 x.f2 = some (hv x.f1) := by
  have hb' : x.f1.length + (x.f1.map b95).sum ≤ 1048576 := by unfold b27 at hb; omega
  refine ((get_spec x.f1 ⟨#[101, 116, 97, 103]⟩ hb').and (get_spec x.f1 ⟨#[108, 97, 115, 116, 45, 109, 111, 100, 105, 102, 105, 101, 100]⟩ hb')).mono fun k hk => ?_
  unfold spec_HasValidator.f hv
  rw [hk.1, hk.2]
  simp only [Option.bind_some]
  cases decide (((vs x.f1 ⟨#[101, 116, 97, 103]⟩).length : Int) > 0) <;> simp
theorem has_impl (x : S27) (hb : b27 x ≤ 1048576) : Kit.Late fun k => impl_HasValidator.f k x.f0 x.f1 x.f2 = some (hv x.f1) := by
  have hb' : x.f1.length + (x.f1.map b95).sum ≤ 1048576 := by unfold b27 at hb; omega
  refine ((get_impl x.f1 ⟨#[101, 116, 97, 103]⟩ hb').and (get_impl x.f1 ⟨#[108, 97, 115, 116, 45, 109, 111, 100, 105, 102, 105, 101, 100]⟩ hb')).mono fun k hk => ?_
  unfold impl_HasValidator.f impl_hasField.f hv
  rw [hk.1, hk.2]
  simp only [Option.bind_some]
  cases decide (((vs x.f1 ⟨#[101, 116, 97, 103]⟩).length : Int) > 0) <;> simp

theorem FnExactHasValidator : laws_FnExactHasValidator.Pure := by
  intro x0 hx0
  unfold laws_FnExactHasValidator.f
  have hs0 := szResponse_tells x0 hx0 1048576 (by omega) (by omega)
  by_cases c0 : Kit.szr 1048576 (b44 x0) < 0
  · exact (hs0.mono fun k hk => by rw [hk, Option.bind_some, if_pos c0]).some
  have hb0 : (b44 x0 : Int) ≤ 1048576 := Kit.szr_ge c0
  have h0 := cv44_M x0 hx0
  have hb : b27 (cv44 x0) ≤ 1048576 := by rw [cv44_bulk]; omega
  refine ((hs0.and (toResponse_tells x0 (by omega))).and (((has_spec (cv44 x0) hb).and (has_impl (cv44 x0) hb)).and (eqResponse_refl (cv44 x0) h0))).mono (fun k hk => ?_) |>.some
  obtain ⟨⟨k1, k3⟩, ⟨k5, k6⟩, k7⟩ := hk
  rw [k1, Option.bind_some, if_neg c0, k3]
  simp only [Option.bind_some]
  rw [k5, k6]
  simp only [Option.bind_some]
  rw [k7]
  simp

end Go.Proofs.Ytlhnhilaeoegoaa.Pure
