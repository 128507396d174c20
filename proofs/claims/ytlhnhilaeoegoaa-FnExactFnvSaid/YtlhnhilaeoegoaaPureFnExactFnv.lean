/- Fnv of the program and of the reference go through the same bytes by the same rounds, at every text. Conditions: none. -/
import Derived.Test.YtlhnhilaeoegoaaPFnExactFnvx1
namespace Go.Proofs.Ytlhnhilaeoegoaa.Pure
open Go.RowKit Go.Proofs.Ytlhnhilaeoegoaa.PFnExactFnv Go.Proofs.YtlhnhilaeoegoaaW.PrintWords Go.Proofs.YtlhnhilaeoegoaaW.PrintLast

theorem fnv_same (s : ByteArray) (hn : s.size ≤ 140737488351232) (d : Nat) : ∀ (k : Nat) (h i : Int), 0 ≤ i → i ≤ s.size → (s.size : Int) - i = d → d < k →
    ∃ r, spec_Fnv.l0 k s h i = some r ∧ impl_Fnv.l0 k s h (s.size : Int) i = some r := by
  induction d with
  | zero =>
    intro k h i h0 h1 hd hk
    obtain ⟨k, rfl⟩ : ∃ m, k = m + 1 := ⟨k - 1, by omega⟩
    refine ⟨h, ?_, ?_⟩
    · simp only [spec_Fnv.l0]; rw [if_neg (by omega)]
    · simp only [impl_Fnv.l0]; rw [if_neg (by omega)]
  | succ d ih =>
    intro k h i h0 h1 hd hk
    obtain ⟨k, rfl⟩ : ∃ m, k = m + 1 := ⟨k - 1, by omega⟩
    have hw : wrap64 (i + 1) = i + 1 := by unfold wrap64; omega
    obtain ⟨r, e1, e2⟩ := ih k (Int.tmod (wrap64 ((Go.bits .xor .i64 h (wrap64 (bt s i))) * 16777619)) 4294967296) (i + 1) (by omega) (by omega) (by omega) (by omega)
    refine ⟨r, ?_, ?_⟩
    · simp only [spec_Fnv.l0]; rw [if_pos (by omega), if_pos h0, hw]; exact e1
    · simp only [impl_Fnv.l0]; rw [if_pos (by omega), if_pos h0, if_pos (by omega), hw]; exact e2

theorem FnExactFnv : laws_FnExactFnv.Pure := by
  intro a0 hn
  obtain ⟨r, e1, e2⟩ := fnv_same a0 hn a0.size (a0.size + 1) 2166136261 0 (by omega) (by omega) (by omega) (by omega)
  refine ⟨a0.size + 1, ?_⟩
  unfold laws_FnExactFnv.f spec_Fnv.f impl_Fnv.f
  rw [e1, e2]
  simp

end Go.Proofs.Ytlhnhilaeoegoaa.Pure
