/- A small verified machine for the operations of the given program, and plain laws of what its functions compute; without conditions of its own. Part 4. -/
import Derived.Test.YtiefookbpgdmoaaGreatDoorH2
import Derived.Lib.SlTrimSet
import Derived.Lib.Bytealg
import Derived.Lib.IndexMore
import Derived.Lib.Join
import Derived.Lib.ItoaMem
import Derived.Lib.ItoaLen
import Derived.Lib.AppendIntMem
import Derived.Lib.LaidTab
import Derived.Stop.LaidErr
import Derived.DataReads
import Derived.Laws.IdiomStrings
import Derived.Lib.AtoiAllMem
import Derived.Lib.AtoiAllCases
import Derived.Lib.Split
set_option linter.unusedVariables false
set_option linter.unusedSimpArgs false
section
/- The plain library, first part: canonical types of the program's data, texts as lists of bytes, loops by measure. -/
set_option linter.unusedVariables false
namespace Go.Ev
abbrev S := ByteArray
abbrev Fld : Type := S × S
abbrev Req : Type := S × S × List Fld × S
abbrev Rsp : Type := Int × List Fld × S
abbrev Sto : Type := S × List Fld × Int × List Fld × S × Int × Int
abbrev Slt : Type := S × List Fld × Int × List Fld × S × Int × Int × Bool
abbrev Shd : Type := Int × Int × List Slt × Int
abbrev Gen : Type := S × Int
abbrev Cch : Type := List Shd × List Gen
abbrev Flt : Type := S × Bool × Int × Bool × Bool × S × S × List Fld × S × Int × List Fld × S × Int × Int
abbrev Rsc : Type := S × S × Int × Int × Bool × Bool × List Fld
abbrev Tld : Type := Int × Int × List Fld × S
abbrev Evt : Type := Int × Int × Int × S × Int × Int
abbrev Cnn : Type := Int × S × Int × S × S × List Fld × S × S × S × List Fld × S × S × List Fld × Int × List Fld × S × Int × Int × Bool × Int × Int × Int × Int × Bool × Int × List Fld × S × List Tld
class Dft (α : Type) where
  dft : α
instance : Dft Int := ⟨0⟩
instance : Dft Bool := ⟨false⟩
instance : Dft ByteArray := ⟨ByteArray.empty⟩
instance {α : Type} : Dft (List α) := ⟨[]⟩
instance {α β : Type} [Dft α] [Dft β] : Dft (α × β) := ⟨(Dft.dft, Dft.dft)⟩
def rx {α : Type} [Dft α] (xs : List α) (i : Int) : α := xs.getD i.toNat Dft.dft
theorem rx_nat {α : Type} [Dft α] (xs : List α) (i : Nat) (h : i < xs.length) : rx xs (i : Int) = xs[i] := by
  unfold rx
  rw [Int.toNat_natCast, List.getD_eq_getElem?_getD, List.getElem?_eq_getElem h]; rfl

class Cz (α : Type) where
  czOf : α → Nat
def cz {α : Type} [Cz α] (x : α) : Nat := Cz.czOf x
instance : Cz Int := ⟨fun _ => 0⟩
instance : Cz Bool := ⟨fun _ => 0⟩
instance : Cz ByteArray := ⟨fun s => s.size⟩
instance {α : Type} [Cz α] : Cz (List α) := ⟨fun xs => xs.length + sumN (xs.map cz)⟩
instance {α β : Type} [Cz α] [Cz β] : Cz (α × β) := ⟨fun x => cz x.1 + cz x.2⟩
theorem cz_int (x : Int) : cz x = 0 := rfl
theorem cz_bool (x : Bool) : cz x = 0 := rfl
theorem cz_str (x : ByteArray) : cz x = x.size := rfl
theorem cz_list {α : Type} [Cz α] (xs : List α) : cz xs = xs.length + sumN (xs.map cz) := rfl
theorem cz_pair {α β : Type} [Cz α] [Cz β] (x : α × β) : cz x = cz x.1 + cz x.2 := rfl
theorem czt {α β : Type} [Cz α] [Cz β] {x : α × β} {n : Nat} (h : cz x ≤ n) : cz x.2 ≤ n := by rw [cz_pair] at h; omega
theorem czh {α β : Type} [Cz α] [Cz β] {x : α × β} {n : Nat} (h : cz x ≤ n) : cz x.1 ≤ n := by rw [cz_pair] at h; omega
theorem czm3 {α β γ δ : Type} [Cz α] [Cz β] [Cz γ] [Cz δ] {x : α × β × γ × δ} {n : Nat} (h : cz x ≤ n) : cz (x.1, x.2.1, x.2.2.1) ≤ n := by simp only [cz_pair] at h ⊢; omega
theorem czm7 {α β γ δ ε ζ η θ : Type} [Cz α] [Cz β] [Cz γ] [Cz δ] [Cz ε] [Cz ζ] [Cz η] [Cz θ] {x : α × β × γ × δ × ε × ζ × η × θ} {n : Nat} (h : cz x ≤ n) : cz (x.1, x.2.1, x.2.2.1, x.2.2.2.1, x.2.2.2.2.1, x.2.2.2.2.2.1, x.2.2.2.2.2.2.1) ≤ n := by simp only [cz_pair] at h ⊢; omega
theorem cz_len {α : Type} [Cz α] (xs : List α) : xs.length ≤ cz xs := by rw [cz_list]; omega
theorem cz_mem {α : Type} [Cz α] {xs : List α} {x : α} (h : x ∈ xs) : cz x + 1 ≤ cz xs := by
  rw [cz_list]
  have h1 := sumN_mem (List.mem_map.2 ⟨x, h, rfl⟩ : cz x ∈ xs.map cz)
  have h2 : 0 < xs.length := List.length_pos_of_mem h
  omega

def in64 (n : Int) : Prop := -9223372036854775808 ≤ n ∧ n ≤ 9223372036854775807
class Wd (α : Type) where
  wdOf : α → Prop
def wd {α : Type} [Wd α] (x : α) : Prop := Wd.wdOf x
instance : Wd Int := ⟨fun n => (Lit.int .i64 n).wf = true⟩
instance : Wd Bool := ⟨fun _ => True⟩
instance : Wd ByteArray := ⟨fun s => s.size ≤ maxLen⟩
instance {α : Type} [Wd α] : Wd (List α) := ⟨fun xs => xs.length ≤ maxLen ∧ ∀ (i : Nat) (x : α), gt xs i = some x → wd x⟩
instance {α β : Type} [Wd α] [Wd β] : Wd (α × β) := ⟨fun x => wd x.1 ∧ wd x.2⟩
instance : DecidableEq (List Fld × S) := @instDecidableEqProd _ _ inferInstance inferInstance
instance : DecidableEq (Int × List Fld × S) := @instDecidableEqProd _ _ inferInstance inferInstance
instance : Dft (Int × List Fld × S) := inferInstance
instance : Cz (Int × List Fld × S) := inferInstance
instance : Wd (Int × List Fld × S) := inferInstance
instance : DecidableEq (S × List Fld × S) := @instDecidableEqProd _ _ inferInstance inferInstance
instance : DecidableEq (S × S × List Fld × S) := @instDecidableEqProd _ _ inferInstance inferInstance
instance : Dft (S × S × List Fld × S) := inferInstance
instance : Cz (S × S × List Fld × S) := inferInstance
instance : Wd (S × S × List Fld × S) := inferInstance
instance : DecidableEq (Int × Int × List Fld × S) := @instDecidableEqProd _ _ inferInstance inferInstance
instance : Dft (Int × Int × List Fld × S) := inferInstance
instance : Cz (Int × Int × List Fld × S) := inferInstance
instance : Wd (Int × Int × List Fld × S) := inferInstance
instance : DecidableEq (Int × Int) := @instDecidableEqProd _ _ inferInstance inferInstance
instance : DecidableEq (S × Int × Int) := @instDecidableEqProd _ _ inferInstance inferInstance
instance : DecidableEq (List Fld × S × Int × Int) := @instDecidableEqProd _ _ inferInstance inferInstance
instance : Dft (List Fld × S × Int × Int) := inferInstance
instance : Cz (List Fld × S × Int × Int) := inferInstance
instance : Wd (List Fld × S × Int × Int) := inferInstance
instance : DecidableEq (Int × List Fld × S × Int × Int) := @instDecidableEqProd _ _ inferInstance inferInstance
instance : DecidableEq (List Fld × Int × List Fld × S × Int × Int) := @instDecidableEqProd _ _ inferInstance inferInstance
instance : DecidableEq (S × List Fld × Int × List Fld × S × Int × Int) := @instDecidableEqProd _ _ inferInstance inferInstance
instance : Dft (S × List Fld × Int × List Fld × S × Int × Int) := inferInstance
instance : Cz (S × List Fld × Int × List Fld × S × Int × Int) := inferInstance
instance : Wd (S × List Fld × Int × List Fld × S × Int × Int) := inferInstance
instance : DecidableEq (Int × Bool) := @instDecidableEqProd _ _ inferInstance inferInstance
instance : DecidableEq (Int × Int × Bool) := @instDecidableEqProd _ _ inferInstance inferInstance
instance : DecidableEq (S × Int × Int × Bool) := @instDecidableEqProd _ _ inferInstance inferInstance
instance : Dft (S × Int × Int × Bool) := inferInstance
instance : Cz (S × Int × Int × Bool) := inferInstance
instance : Wd (S × Int × Int × Bool) := inferInstance
instance : DecidableEq (List Fld × S × Int × Int × Bool) := @instDecidableEqProd _ _ inferInstance inferInstance
instance : DecidableEq (Int × List Fld × S × Int × Int × Bool) := @instDecidableEqProd _ _ inferInstance inferInstance
instance : DecidableEq (List Fld × Int × List Fld × S × Int × Int × Bool) := @instDecidableEqProd _ _ inferInstance inferInstance
instance : DecidableEq (S × List Fld × Int × List Fld × S × Int × Int × Bool) := @instDecidableEqProd _ _ inferInstance inferInstance
instance : Dft (S × List Fld × Int × List Fld × S × Int × Int × Bool) := inferInstance
instance : Cz (S × List Fld × Int × List Fld × S × Int × Int × Bool) := inferInstance
instance : Wd (S × List Fld × Int × List Fld × S × Int × Int × Bool) := inferInstance
instance : DecidableEq (List Slt × Int) := @instDecidableEqProd _ _ inferInstance inferInstance
instance : DecidableEq (Int × List Slt × Int) := @instDecidableEqProd _ _ inferInstance inferInstance
instance : DecidableEq (Int × Int × List Slt × Int) := @instDecidableEqProd _ _ inferInstance inferInstance
instance : Dft (Int × Int × List Slt × Int) := inferInstance
instance : Cz (Int × Int × List Slt × Int) := inferInstance
instance : Wd (Int × Int × List Slt × Int) := inferInstance
instance : DecidableEq (S × Int) := @instDecidableEqProd _ _ inferInstance inferInstance
instance : Dft (S × Int) := inferInstance
instance : Cz (S × Int) := inferInstance
instance : Wd (S × Int) := inferInstance
instance : DecidableEq (S × Int × List Fld × S × Int × Int) := @instDecidableEqProd _ _ inferInstance inferInstance
instance : DecidableEq (List Fld × S × Int × List Fld × S × Int × Int) := @instDecidableEqProd _ _ inferInstance inferInstance
instance : DecidableEq (S × List Fld × S × Int × List Fld × S × Int × Int) := @instDecidableEqProd _ _ inferInstance inferInstance
instance : Dft (S × List Fld × S × Int × List Fld × S × Int × Int) := inferInstance
instance : Cz (S × List Fld × S × Int × List Fld × S × Int × Int) := inferInstance
instance : Wd (S × List Fld × S × Int × List Fld × S × Int × Int) := inferInstance
instance : DecidableEq (S × S × List Fld × S × Int × List Fld × S × Int × Int) := @instDecidableEqProd _ _ inferInstance inferInstance
instance : DecidableEq (Bool × S × S × List Fld × S × Int × List Fld × S × Int × Int) := @instDecidableEqProd _ _ inferInstance inferInstance
instance : DecidableEq (Bool × Bool × S × S × List Fld × S × Int × List Fld × S × Int × Int) := @instDecidableEqProd _ _ inferInstance inferInstance
instance : DecidableEq (Int × Bool × Bool × S × S × List Fld × S × Int × List Fld × S × Int × Int) := @instDecidableEqProd _ _ inferInstance inferInstance
instance : Dft (Int × Bool × Bool × S × S × List Fld × S × Int × List Fld × S × Int × Int) := inferInstance
instance : Cz (Int × Bool × Bool × S × S × List Fld × S × Int × List Fld × S × Int × Int) := inferInstance
instance : Wd (Int × Bool × Bool × S × S × List Fld × S × Int × List Fld × S × Int × Int) := inferInstance
instance : DecidableEq (Bool × Int × Bool × Bool × S × S × List Fld × S × Int × List Fld × S × Int × Int) := @instDecidableEqProd _ _ inferInstance inferInstance
instance : DecidableEq (S × Bool × Int × Bool × Bool × S × S × List Fld × S × Int × List Fld × S × Int × Int) := @instDecidableEqProd _ _ inferInstance inferInstance
instance : Dft (S × Bool × Int × Bool × Bool × S × S × List Fld × S × Int × List Fld × S × Int × Int) := inferInstance
instance : Cz (S × Bool × Int × Bool × Bool × S × S × List Fld × S × Int × List Fld × S × Int × Int) := inferInstance
instance : Wd (S × Bool × Int × Bool × Bool × S × S × List Fld × S × Int × List Fld × S × Int × Int) := inferInstance
instance : DecidableEq (Bool × List Fld) := @instDecidableEqProd _ _ inferInstance inferInstance
instance : DecidableEq (Bool × Bool × List Fld) := @instDecidableEqProd _ _ inferInstance inferInstance
instance : DecidableEq (Int × Bool × Bool × List Fld) := @instDecidableEqProd _ _ inferInstance inferInstance
instance : Dft (Int × Bool × Bool × List Fld) := inferInstance
instance : Cz (Int × Bool × Bool × List Fld) := inferInstance
instance : Wd (Int × Bool × Bool × List Fld) := inferInstance
instance : DecidableEq (Int × Int × Bool × Bool × List Fld) := @instDecidableEqProd _ _ inferInstance inferInstance
instance : DecidableEq (S × Int × Int × Bool × Bool × List Fld) := @instDecidableEqProd _ _ inferInstance inferInstance
instance : DecidableEq (S × S × Int × Int × Bool × Bool × List Fld) := @instDecidableEqProd _ _ inferInstance inferInstance
instance : Dft (S × S × Int × Int × Bool × Bool × List Fld) := inferInstance
instance : Cz (S × S × Int × Int × Bool × Bool × List Fld) := inferInstance
instance : Wd (S × S × Int × Int × Bool × Bool × List Fld) := inferInstance
instance : DecidableEq (Int × S × Int × Int) := @instDecidableEqProd _ _ inferInstance inferInstance
instance : Dft (Int × S × Int × Int) := inferInstance
instance : Cz (Int × S × Int × Int) := inferInstance
instance : Wd (Int × S × Int × Int) := inferInstance
instance : DecidableEq (Int × Int × S × Int × Int) := @instDecidableEqProd _ _ inferInstance inferInstance
instance : DecidableEq (Int × Int × Int × S × Int × Int) := @instDecidableEqProd _ _ inferInstance inferInstance
instance : Dft (Int × Int × Int × S × Int × Int) := inferInstance
instance : Cz (Int × Int × Int × S × Int × Int) := inferInstance
instance : Wd (Int × Int × Int × S × Int × Int) := inferInstance
instance : DecidableEq (S × List Tld) := @instDecidableEqProd _ _ inferInstance inferInstance
instance : DecidableEq (List Fld × S × List Tld) := @instDecidableEqProd _ _ inferInstance inferInstance
instance : DecidableEq (Int × List Fld × S × List Tld) := @instDecidableEqProd _ _ inferInstance inferInstance
instance : Dft (Int × List Fld × S × List Tld) := inferInstance
instance : Cz (Int × List Fld × S × List Tld) := inferInstance
instance : Wd (Int × List Fld × S × List Tld) := inferInstance
instance : DecidableEq (Bool × Int × List Fld × S × List Tld) := @instDecidableEqProd _ _ inferInstance inferInstance
instance : DecidableEq (Int × Bool × Int × List Fld × S × List Tld) := @instDecidableEqProd _ _ inferInstance inferInstance
instance : DecidableEq (Int × Int × Bool × Int × List Fld × S × List Tld) := @instDecidableEqProd _ _ inferInstance inferInstance
instance : DecidableEq (Int × Int × Int × Bool × Int × List Fld × S × List Tld) := @instDecidableEqProd _ _ inferInstance inferInstance
instance : Dft (Int × Int × Int × Bool × Int × List Fld × S × List Tld) := inferInstance
instance : Cz (Int × Int × Int × Bool × Int × List Fld × S × List Tld) := inferInstance
instance : Wd (Int × Int × Int × Bool × Int × List Fld × S × List Tld) := inferInstance
instance : DecidableEq (Int × Int × Int × Int × Bool × Int × List Fld × S × List Tld) := @instDecidableEqProd _ _ inferInstance inferInstance
instance : DecidableEq (Bool × Int × Int × Int × Int × Bool × Int × List Fld × S × List Tld) := @instDecidableEqProd _ _ inferInstance inferInstance
instance : DecidableEq (Int × Bool × Int × Int × Int × Int × Bool × Int × List Fld × S × List Tld) := @instDecidableEqProd _ _ inferInstance inferInstance
instance : DecidableEq (Int × Int × Bool × Int × Int × Int × Int × Bool × Int × List Fld × S × List Tld) := @instDecidableEqProd _ _ inferInstance inferInstance
instance : Dft (Int × Int × Bool × Int × Int × Int × Int × Bool × Int × List Fld × S × List Tld) := inferInstance
instance : Cz (Int × Int × Bool × Int × Int × Int × Int × Bool × Int × List Fld × S × List Tld) := inferInstance
instance : Wd (Int × Int × Bool × Int × Int × Int × Int × Bool × Int × List Fld × S × List Tld) := inferInstance
instance : DecidableEq (S × Int × Int × Bool × Int × Int × Int × Int × Bool × Int × List Fld × S × List Tld) := @instDecidableEqProd _ _ inferInstance inferInstance
instance : DecidableEq (List Fld × S × Int × Int × Bool × Int × Int × Int × Int × Bool × Int × List Fld × S × List Tld) := @instDecidableEqProd _ _ inferInstance inferInstance
instance : DecidableEq (Int × List Fld × S × Int × Int × Bool × Int × Int × Int × Int × Bool × Int × List Fld × S × List Tld) := @instDecidableEqProd _ _ inferInstance inferInstance
instance : DecidableEq (List Fld × Int × List Fld × S × Int × Int × Bool × Int × Int × Int × Int × Bool × Int × List Fld × S × List Tld) := @instDecidableEqProd _ _ inferInstance inferInstance
instance : Dft (List Fld × Int × List Fld × S × Int × Int × Bool × Int × Int × Int × Int × Bool × Int × List Fld × S × List Tld) := inferInstance
instance : Cz (List Fld × Int × List Fld × S × Int × Int × Bool × Int × Int × Int × Int × Bool × Int × List Fld × S × List Tld) := inferInstance
instance : Wd (List Fld × Int × List Fld × S × Int × Int × Bool × Int × Int × Int × Int × Bool × Int × List Fld × S × List Tld) := inferInstance
instance : DecidableEq (S × List Fld × Int × List Fld × S × Int × Int × Bool × Int × Int × Int × Int × Bool × Int × List Fld × S × List Tld) := @instDecidableEqProd _ _ inferInstance inferInstance
instance : DecidableEq (S × S × List Fld × Int × List Fld × S × Int × Int × Bool × Int × Int × Int × Int × Bool × Int × List Fld × S × List Tld) := @instDecidableEqProd _ _ inferInstance inferInstance
instance : DecidableEq (List Fld × S × S × List Fld × Int × List Fld × S × Int × Int × Bool × Int × Int × Int × Int × Bool × Int × List Fld × S × List Tld) := @instDecidableEqProd _ _ inferInstance inferInstance
instance : DecidableEq (S × List Fld × S × S × List Fld × Int × List Fld × S × Int × Int × Bool × Int × Int × Int × Int × Bool × Int × List Fld × S × List Tld) := @instDecidableEqProd _ _ inferInstance inferInstance
instance : Dft (S × List Fld × S × S × List Fld × Int × List Fld × S × Int × Int × Bool × Int × Int × Int × Int × Bool × Int × List Fld × S × List Tld) := inferInstance
instance : Cz (S × List Fld × S × S × List Fld × Int × List Fld × S × Int × Int × Bool × Int × Int × Int × Int × Bool × Int × List Fld × S × List Tld) := inferInstance
instance : Wd (S × List Fld × S × S × List Fld × Int × List Fld × S × Int × Int × Bool × Int × Int × Int × Int × Bool × Int × List Fld × S × List Tld) := inferInstance
instance : DecidableEq (S × S × List Fld × S × S × List Fld × Int × List Fld × S × Int × Int × Bool × Int × Int × Int × Int × Bool × Int × List Fld × S × List Tld) := @instDecidableEqProd _ _ inferInstance inferInstance
instance : DecidableEq (S × S × S × List Fld × S × S × List Fld × Int × List Fld × S × Int × Int × Bool × Int × Int × Int × Int × Bool × Int × List Fld × S × List Tld) := @instDecidableEqProd _ _ inferInstance inferInstance
instance : DecidableEq (List Fld × S × S × S × List Fld × S × S × List Fld × Int × List Fld × S × Int × Int × Bool × Int × Int × Int × Int × Bool × Int × List Fld × S × List Tld) := @instDecidableEqProd _ _ inferInstance inferInstance
instance : DecidableEq (S × List Fld × S × S × S × List Fld × S × S × List Fld × Int × List Fld × S × Int × Int × Bool × Int × Int × Int × Int × Bool × Int × List Fld × S × List Tld) := @instDecidableEqProd _ _ inferInstance inferInstance
instance : Dft (S × List Fld × S × S × S × List Fld × S × S × List Fld × Int × List Fld × S × Int × Int × Bool × Int × Int × Int × Int × Bool × Int × List Fld × S × List Tld) := inferInstance
instance : Cz (S × List Fld × S × S × S × List Fld × S × S × List Fld × Int × List Fld × S × Int × Int × Bool × Int × Int × Int × Int × Bool × Int × List Fld × S × List Tld) := inferInstance
instance : Wd (S × List Fld × S × S × S × List Fld × S × S × List Fld × Int × List Fld × S × Int × Int × Bool × Int × Int × Int × Int × Bool × Int × List Fld × S × List Tld) := inferInstance
instance : DecidableEq (S × S × List Fld × S × S × S × List Fld × S × S × List Fld × Int × List Fld × S × Int × Int × Bool × Int × Int × Int × Int × Bool × Int × List Fld × S × List Tld) := @instDecidableEqProd _ _ inferInstance inferInstance
instance : DecidableEq (Int × S × S × List Fld × S × S × S × List Fld × S × S × List Fld × Int × List Fld × S × Int × Int × Bool × Int × Int × Int × Int × Bool × Int × List Fld × S × List Tld) := @instDecidableEqProd _ _ inferInstance inferInstance
instance : DecidableEq (S × Int × S × S × List Fld × S × S × S × List Fld × S × S × List Fld × Int × List Fld × S × Int × Int × Bool × Int × Int × Int × Int × Bool × Int × List Fld × S × List Tld) := @instDecidableEqProd _ _ inferInstance inferInstance
instance : DecidableEq (Int × S × Int × S × S × List Fld × S × S × S × List Fld × S × S × List Fld × Int × List Fld × S × Int × Int × Bool × Int × Int × Int × Int × Bool × Int × List Fld × S × List Tld) := @instDecidableEqProd _ _ inferInstance inferInstance
instance : Dft (Int × S × Int × S × S × List Fld × S × S × S × List Fld × S × S × List Fld × Int × List Fld × S × Int × Int × Bool × Int × Int × Int × Int × Bool × Int × List Fld × S × List Tld) := inferInstance
instance : Cz (Int × S × Int × S × S × List Fld × S × S × S × List Fld × S × S × List Fld × Int × List Fld × S × Int × Int × Bool × Int × Int × Int × Int × Bool × Int × List Fld × S × List Tld) := inferInstance
instance : Wd (Int × S × Int × S × S × List Fld × S × S × S × List Fld × S × S × List Fld × Int × List Fld × S × Int × Int × Bool × Int × Int × Int × Int × Bool × Int × List Fld × S × List Tld) := inferInstance
instance : DecidableEq (List Shd × List Gen) := @instDecidableEqProd _ _ inferInstance inferInstance
instance : Dft (List Shd × List Gen) := inferInstance
instance : Cz (List Shd × List Gen) := inferInstance
instance : Wd (List Shd × List Gen) := inferInstance
instance : DecidableEq (List Rsc × List Evt) := @instDecidableEqProd _ _ inferInstance inferInstance
instance : DecidableEq (List Flt × List Rsc × List Evt) := @instDecidableEqProd _ _ inferInstance inferInstance
instance : DecidableEq (List Gen × List Flt × List Rsc × List Evt) := @instDecidableEqProd _ _ inferInstance inferInstance
instance : Dft (List Gen × List Flt × List Rsc × List Evt) := inferInstance
instance : Cz (List Gen × List Flt × List Rsc × List Evt) := inferInstance
instance : Wd (List Gen × List Flt × List Rsc × List Evt) := inferInstance
instance : DecidableEq (List Shd × List Gen × List Flt × List Rsc × List Evt) := @instDecidableEqProd _ _ inferInstance inferInstance
instance : DecidableEq (List Cnn × List Shd × List Gen × List Flt × List Rsc × List Evt) := @instDecidableEqProd _ _ inferInstance inferInstance
instance : DecidableEq (Int × List Cnn × List Shd × List Gen × List Flt × List Rsc × List Evt) := @instDecidableEqProd _ _ inferInstance inferInstance
instance : DecidableEq (Int × Int × List Cnn × List Shd × List Gen × List Flt × List Rsc × List Evt) := @instDecidableEqProd _ _ inferInstance inferInstance
instance : Dft (Int × Int × List Cnn × List Shd × List Gen × List Flt × List Rsc × List Evt) := inferInstance
instance : Cz (Int × Int × List Cnn × List Shd × List Gen × List Flt × List Rsc × List Evt) := inferInstance
instance : Wd (Int × Int × List Cnn × List Shd × List Gen × List Flt × List Rsc × List Evt) := inferInstance
theorem wd_pair {α β : Type} [Wd α] [Wd β] {x : α × β} : wd x ↔ wd x.1 ∧ wd x.2 := Iff.rfl
theorem wf_wd {s : ByteArray} : wf .str s = wd s := by simp only [wf]; rfl
theorem wd_mem {α : Type} [Wd α] {xs : List α} (h : wd xs) {x : α} (hx : x ∈ xs) : wd x := by
  obtain ⟨i, hi⟩ := List.mem_iff_getElem?.1 hx
  exact h.2 i x hi

def szF {α : Type} [Cz α] (x : α) (k : Int) : Int := leftI (cz x) k
def pSz {α : Type} [Wd α] (x : α) (k : Int) : Prop := wd x ∧ 0 ≤ k ∧ k ≤ capI
def eqF {α : Type} [DecidableEq α] (x y : α) : Bool := decide (x = y)
def pEq {α : Type} [Wd α] (x _y : α) : Prop := wd x
theorem eqF_iff {α : Type} [DecidableEq α] {x y : α} : eqF x y = true ↔ x = y := decide_eq_true_iff
def toF {α : Type} (x : α) : α := x
def pTo {α : Type} [Cz α] (x : α) : Prop := cz x ≤ 1048576

def lit (l : List Nat) : ByteArray := ⟨(l.map UInt8.ofNat).toArray⟩
abbrev bs (s : ByteArray) : List UInt8 := s.data.toList
def ob (l : List UInt8) : ByteArray := ⟨l.toArray⟩
theorem bs_ob (l : List UInt8) : bs (ob l) = l := rfl
theorem ob_bs (s : ByteArray) : ob (bs s) = s := rfl
theorem bs_inj {s t : ByteArray} (h : bs s = bs t) : s = t := by rw [← ob_bs s, h, ob_bs]
theorem bs_len (s : ByteArray) : (bs s).length = s.size := by
  show s.data.toList.length = s.data.size
  exact Array.length_toList
theorem ob_size (l : List UInt8) : (ob l).size = l.length := by rw [← bs_len, bs_ob]
theorem bs_append (s t : ByteArray) : bs (s ++ t) = bs s ++ bs t := by
  show (s ++ t).data.toList = _
  rw [ByteArray.data_append, Array.toList_append]
theorem bs_extract (s : ByteArray) (i j : Nat) : bs (s.extract i j) = ((bs s).drop i).take (j - i) := by
  show (s.extract i j).data.toList = _
  rw [ByteArray.data_extract, Array.toList_extract, List.extract_eq_take_drop]
theorem bs_lit (l : List Nat) : bs (lit l) = l.map UInt8.ofNat := rfl
theorem size_append (s t : ByteArray) : (s ++ t).size = s.size + t.size := by rw [← bs_len, bs_append, List.length_append, bs_len, bs_len]
theorem bt_nat (s : ByteArray) (i : Nat) (h : i < s.size) : bt s (i : Int) = (((bs s)[i]'(by rw [bs_len]; exact h)).toNat : Int) := by
  unfold bt
  simp only [Int.toNat_natCast]
  rw [dif_pos h]
  rfl
theorem bt_range (s : ByteArray) (i : Int) : 0 ≤ bt s i ∧ bt s i < 256 := by
  unfold bt
  split
  · have := (s[i.toNat]).toNat_lt
    omega
  · omega
theorem lit_ne {s : ByteArray} : s ≠ lit [] ↔ s.size ≠ 0 := by
  constructor
  · intro h h0
    apply h
    apply bs_inj
    have : (bs s).length = 0 := by rw [bs_len]; exact h0
    rw [List.eq_nil_of_length_eq_zero this]; rfl
  · intro h e
    rw [e] at h
    exact h rfl
theorem wrap64 {n : Int} (h0 : -9223372036854775808 ≤ n) (h1 : n < 9223372036854775808) : IntKind.i64.wrap n = n := wrapI n h0 h1
theorem wrap8 {n : Int} (h0 : 0 ≤ n) (h1 : n < 256) : IntKind.u8.wrap n = n := by
  simp [IntKind.wrap, IntKind.bits, IntKind.signed]
  omega

theorem loopI {α : Type} {Lp : α → Prop} {B : α → Prop} (hL : ∀ y, B y → Lp y) (I : α → Prop) (m : α → Nat) (step : ∀ y, I y → (∀ y', I y' → m y' < m y → Lp y') → B y) : ∀ y, I y → Lp y := by
  have key : ∀ (n : Nat) (y : α), m y = n → I y → Lp y := by
    intro n
    induction n using Nat.strongRecOn with
    | _ n ih =>
      intro y hm hI
      exact hL y (step y hI fun y' hI' hlt => ih (m y') (by omega) y' rfl hI')
  exact fun y hI => key _ y rfl hI
instance {s t : ByteArray} : Decidable (strLt s t) := inferInstanceAs (Decidable (_ = _))
def idxI {α : Type} (p : α → Bool) (xs : List α) : Int := match xs.findIdx? p with
  | some i => (i : Int)
  | none => -1
theorem idxI_neg {α : Type} {p : α → Bool} {xs : List α} : idxI p xs < 0 ↔ xs.any p = false := by
  unfold idxI
  cases h : xs.findIdx? p with
  | none =>
    rw [List.findIdx?_eq_none_iff] at h
    simp only [Int.reduceNeg, Int.reduceLT, true_iff, List.any_eq_false, Bool.not_eq_true]
    exact h
  | some i =>
    rw [List.findIdx?_eq_some_iff_getElem] at h
    obtain ⟨hi, hp, _⟩ := h
    have : xs.any p = true := List.any_eq_true.2 ⟨xs[i], List.getElem_mem hi, hp⟩
    rw [this]
    show (i : Int) < 0 ↔ _
    constructor
    · intro h; omega
    · intro h; cases h
theorem idxI_at {α : Type} {p : α → Bool} {xs : List α} {i : Nat} (hi : i < xs.length) (hp : p xs[i] = true) (hb : ∀ j (h : j < i), p (xs[j]'(by omega)) = false) : idxI p xs = (i : Int) := by
  have : xs.findIdx? p = some i := by
    rw [List.findIdx?_eq_some_iff_getElem]
    exact ⟨hi, hp, fun j hj => by simp [hb j hj]⟩
  unfold idxI
  rw [this]
theorem idxI_none {α : Type} {p : α → Bool} {xs : List α} (hb : ∀ j (h : j < xs.length), p xs[j] = false) : idxI p xs = -1 := by
  have : xs.findIdx? p = none := by
    rw [List.findIdx?_eq_none_iff]
    intro x hx
    obtain ⟨j, hj, rfl⟩ := List.mem_iff_getElem.1 hx
    exact hb j hj
  unfold idxI
  rw [this]
end Go.Ev
namespace Go.Ev
theorem ct_by {P : Program} {E : Env} {w : World} {H : Nat → List CT} {fn : Func} {c : Ct} (hE : EnvOk P E) (hC : EnvCts P E w w.heap.size) (hf : P.funcs[c.f]? = some fn) (hname : (fn.name == "runtime.NumGoroutine") = false)
    {A : Prop} (hA : A) (hev : A = ∀ x, c.pre x → evalFn E H fn c.ps c.rs c.shared x fun r => r = c.F x) (hdp : E.deep = c.deep := by rfl) : CtAt P c w := ct_ok hE hC hf hname hdp (hev ▸ hA)
theorem ctm_by {P : Program} {E : Env} {n : Nat} {w : World} {H : Nat → List CT} {fn : Func} {c : CtM} (hE : EnvOk P E) (hC : EnvCts P E w n) (hf : P.funcs[c.f]? = some fn) (hname : (fn.name == "runtime.NumGoroutine") = false)
    {A : Prop} (hA : A) (hev : A = ∀ x, c.pre x → evalM E H fn c.ps c.rs x fun r y => r = c.F x ∧ y = c.W x) (hdp : E.deep = c.deep := by rfl) : CtMAt P c n w := ctm_ok hE hC hf hname hdp (hev ▸ hA)
theorem loopN {Lp B : Int → Prop} (hL : ∀ y, B y → Lp y) (n : Nat) (hn : n ≤ 9223372036854775807) (I : Nat → Prop) (step : ∀ i : Nat, i ≤ n → I i → (i < n → I (i + 1) → Lp (IntKind.i64.wrap ((i : Int) + 1))) → B (i : Int)) (h0 : I 0) : Lp 0 := by
  have key : ∀ m i : Nat, i + m = n → I i → Lp (i : Int) := by
    intro m
    induction m with
    | zero => exact fun i hi hI => hL _ (step i (by omega) hI fun h => absurd h (by omega))
    | succ m ih =>
      exact fun i hi hI => hL _ (step i (by omega) hI fun h hI' => by
        rw [wrap64 (by omega) (by omega)]
        exact ih (i + 1) (by omega) hI')
  exact key n 0 (by omega) h0
theorem loopG {σ : Type} {Lp B : σ → Prop} (hL : ∀ y, B y → Lp y) (n : Nat) (I : Nat → σ → Prop) (step : ∀ (i : Nat) (s : σ), i ≤ n → I i s → (∀ s', i < n → I (i + 1) s' → Lp s') → B s) {s0 : σ} (h0 : I 0 s0) : Lp s0 := by
  have key : ∀ (m i : Nat) (s : σ), i + m = n → I i s → Lp s := by
    intro m
    induction m with
    | zero => exact fun i s hi hI => hL _ (step i s (by omega) hI fun s' h => absurd h (by omega))
    | succ m ih => exact fun i s hi hI => hL _ (step i s (by omega) hI fun s' h hI' => ih (i + 1) s' (by omega) hI')
  exact key n 0 s0 (by omega) h0
theorem wrapS {i : Nat} (h : i ≤ 4611686018427387904) : IntKind.i64.wrap ((i : Int) + 1) = ((i + 1 : Nat) : Int) := by
  rw [wrap64 (by omega) (by omega)]; omega
theorem take_succ_app {α : Type} {l : List α} {i : Nat} (h : i < l.length) : l.take (i + 1) = l.take i ++ [l[i]] := by
  rw [List.take_add_one, List.getElem?_eq_getElem h]; rfl
theorem rx_get {α : Type} [Dft α] (xs : List α) {i : Nat} (h : i < xs.length) : rx xs (i : Int) = xs[i] := rx_nat xs i h
theorem rx_mem {α : Type} [Dft α] (xs : List α) {i : Nat} (h : i < xs.length) : rx xs (i : Int) ∈ xs := by rw [rx_nat xs i h]; exact List.getElem_mem h
theorem md_mem {α : Type} [Cz α] {xs : List α} (h : cz xs ≤ 1048576) {x : α} (hx : x ∈ xs) : cz x ≤ 1048576 := by
  have := cz_mem hx
  omega
theorem all_false {α : Type} {p : α → Bool} {l : List α} {i : Nat} (h : i < l.length) (hp : p l[i] = false) : l.all p = false := by
  rw [List.all_eq_false]
  exact ⟨l[i], List.getElem_mem h, by simp [hp]⟩
end Go.Ev
end

section
/- The plain library: what the program's functions compute, as Lean functions; and what they ask of their arguments. -/
set_option linter.unusedVariables false
namespace Go.Ev
def sm (s : S) : Prop := s.size ≤ 1073741824
def md {α : Type} [Cz α] (x : α) : Prop := cz x ≤ 1048576

def joinL (sep : S) : List S → S
  | [] => lit []
  | [x] => x
  | x :: y :: r => x ++ sep ++ joinL sep (y :: r)
def mJoin (xs : List S) (sep : S) : S := joinL sep xs
def pJoin (xs : List S) (sep : S) : Prop := xs.length ≤ 1073741824 ∧ sumN (xs.map fun x => x.size) ≤ 1073741824 ∧ sep.size ≤ 16
def mTrimL (s cs : S) : S := ob (Lib.trimS (bs s) (bs cs))
def pTrimL (s cs : S) : Prop := sm s ∧ cs = lit [32, 9]
def mIndexByte (s : S) (c : Int) : Int := Lib.indexByte (bs s) c.toNat.toUInt8
def pIndexByte (s : S) (c : Int) : Prop := True
def mIndex_string (xs : List S) (x : S) : Int := idxI (fun y => decide (x = y)) xs
def pIndex_string (xs : List S) (x : S) : Prop := xs.length ≤ maxLen
def mContains_string (xs : List S) (x : S) : Bool := xs.any fun y => decide (x = y)
def pContains_string (xs : List S) (x : S) : Prop := xs.length ≤ maxLen
def mEqual_Field (a b : List Fld) : Bool := decide (a = b)
def pEqual_Field (a b : List Fld) : Prop := a.length ≤ maxLen

def mIn (n lo hi : Int) : Bool := decide (lo ≤ n) && decide (n ≤ hi)
def pIn (n lo hi : Int) : Prop := True

def mItoa (n : Int) : S := ob (Lib.itoa n)
def mDec (n : Int) : S := mItoa n
def mIsLetterOrDigit (b : Int) : Bool := (decide (97 ≤ b) && decide (b ≤ 122)) || (decide (65 ≤ b) && decide (b ≤ 90)) || (decide (48 ≤ b) && decide (b ≤ 57))
def pIsLetterOrDigit (b : Int) : Prop := True
def tokenSigns : List Int := [33, 35, 36, 37, 38, 39, 42, 43, 45, 46, 94, 95, 96, 124, 126]
def mToken (b : Int) : Bool := mIsLetterOrDigit b || tokenSigns.any fun c => decide (b = c)
def pToken (b : Int) : Prop := True
def ints (s : S) : List Int := (bs s).map fun b => (b.toNat : Int)
def mIsTokenText (s : S) : Bool := (ints s).all mToken && decide (s.size ≠ 0)
def pIsTokenText (s : S) : Prop := sm s
def lowB (b : UInt8) : UInt8 := if 65 ≤ b.toNat ∧ b.toNat ≤ 90 then b + 32 else b
def mLower (s : S) : S := ob ((bs s).map lowB)
def pLower (s : S) : Prop := sm s
def mBlank (b : Int) : Bool := decide (b = 32) || decide (b = 9)
def pBlank (b : Int) : Prop := True
def mTrim (s : S) : S := ob (Lib.trimS (bs s) [32, 9])
def pTrim (s : S) : Prop := sm s
def mIsValueText (s : S) : Bool := (ints s).all (fun b => decide (b = 9) || (decide (32 ≤ b) && decide (b ≠ 127))) && decide (mTrim s = s)
def pIsValueText (s : S) : Prop := sm s
def partsL : Bool → List UInt8 → List UInt8 → List (List UInt8)
  | _, cur, [] => [cur]
  | true, cur, [b] => [cur ++ [b]]
  | true, cur, b :: c :: r => if b = 34 then partsL false (cur ++ [b]) (c :: r) else if b = 92 then partsL true (cur ++ [b, c]) r else partsL true (cur ++ [b]) (c :: r)
  | false, cur, b :: r => if b = 34 then partsL true (cur ++ [b]) r else if b = 44 then cur :: partsL false [] r else partsL false (cur ++ [b]) r
def trimmed (l : List (List UInt8)) : List S := (l.map fun p => mTrim (ob p)).filter fun s => decide (s ≠ lit [])
def mSplitList (s : S) : List S := trimmed (partsL false [] (bs s))
def pSplitList (s : S) : Prop := sm s
def commasL : Bool → Int → List UInt8 → List Int
  | _, _, [] => []
  | true, _, [_] => []
  | true, i, b :: c :: r => if b = 34 then commasL false (i + 1) (c :: r) else if b = 92 then commasL true (i + 2) r else commasL true (i + 1) (c :: r)
  | false, i, b :: r => if b = 34 then commasL true (i + 1) r else if b = 44 then i :: commasL false (i + 1) r else commasL false (i + 1) r
def mCommas (s : S) : List Int := commasL false 0 (bs s)
def pCommas (s : S) : Prop := sm s

def valuesOf (l : List Fld) (n : S) : List S := (l.filter fun f => decide (f.1 = n)).map fun f => f.2
def mFieldGet (l : List Fld) (n : S) : S × Bool := (mJoin (valuesOf l n) (lit [44, 32]), decide (0 < (valuesOf l n).length))
def pFieldGet (l : List Fld) (n : S) : Prop := md l
def mHasField (l : List Fld) (n : S) : Bool := (mFieldGet l n).2
def pHasField (l : List Fld) (n : S) : Prop := md l
def mFieldOk (f : Fld) : Bool := mIsTokenText f.1 && decide ((f.1.size : Int) ≤ 24) && decide (mLower f.1 = f.1) && mIsValueText f.2 && decide ((f.2.size : Int) ≤ 60)
def pFieldOk (f : Fld) : Prop := sm f.1 ∧ sm f.2
def mFieldsOk_1 (f : Fld) : Bool := !mFieldOk f
def pFieldsOk_1 (f : Fld) : Prop := pFieldOk f
def mIndexFunc_FieldsOk_1 (l : List Fld) (_ : Unit) : Int := idxI mFieldsOk_1 l
def pIndexFunc_FieldsOk_1 (l : List Fld) (_ : Unit) : Prop := md l
def mContainsFunc_FieldsOk_1 (l : List Fld) (_ : Unit) : Bool := l.any mFieldsOk_1
def pContainsFunc_FieldsOk_1 (l : List Fld) (_ : Unit) : Prop := md l
def mFieldsOk (l : List Fld) : Bool := l.all mFieldOk && decide ((l.length : Int) ≤ 12)
def pFieldsOk (l : List Fld) : Prop := md l
def mSameFields (a b : List Fld) : Bool := decide (a = b)
def pSameFields (a b : List Fld) : Prop := a.length ≤ maxLen

def nameCL : S := lit [99, 111, 110, 116, 101, 110, 116, 45, 108, 101, 110, 103, 116, 104]
def nameTE : S := lit [116, 114, 97, 110, 115, 102, 101, 114, 45, 101, 110, 99, 111, 100, 105, 110, 103]
def mBodyFields (l : List Fld) : Bool := mHasField l nameCL || mHasField l nameTE
def pBodyFields (l : List Fld) : Prop := md l
def mOwnFields (l : List Fld) : Bool := mFieldsOk l && decide ((l.length : Int) < 12) && !mBodyFields l
def pOwnFields (l : List Fld) : Prop := md l
def mUriOk (s : S) : Bool := (ints s).all (fun b => decide (33 ≤ b) && decide (b ≤ 126)) && mIn (s.size : Int) 1 20 && decide (bt s 0 = 47)
def pUriOk (s : S) : Prop := sm s
def mBodiless (n : Int) : Bool := decide (n = 204) || decide (n = 304)
def pBodiless (n : Int) : Prop := True
def mResponseOk (r : Rsp) : Bool := mIn r.1 200 599 && mOwnFields r.2.1 && decide ((r.2.2.size : Int) ≤ 60) && (decide (r.2.2 = lit []) || !mBodiless r.1)
def pResponseOk (r : Rsp) : Prop := md r.2.1

def sVary : S := lit [118, 97, 114, 121]
def mNormal (s : S) : S := mJoin (mSplitList s) (lit [44, 32])
def pNormal (s : S) : Prop := s.size ≤ 4194304
def onceL : List S → List S → List S
  | out, [] => out
  | out, x :: r => onceL (if out.any (fun y => decide (x = y)) then out else out ++ [x]) r
def mVaryNames (r : Rsp) : List S := onceL [] ((mSplitList (mFieldGet r.2.1 sVary).1).map mLower)
def pVaryNames (r : Rsp) : Prop := md r.2.1
def pickOf (q : Req) (n : S) : Option Fld := if (mFieldGet q.2.2.1 n).2 = true then some (n, mNormal (mFieldGet q.2.2.1 n).1) else none
def mPicked (q : Req) (r : Rsp) : List Fld := (mVaryNames r).filterMap (pickOf q)
def pPicked (q : Req) (r : Rsp) : Prop := md q.2.2.1 ∧ md r.2.1
def mVaryFits (q : Req) (r : Rsp) (p : List Fld) : Bool := decide (mPicked q r = p)
def pVaryFits (q : Req) (r : Rsp) (p : List Fld) : Prop := md q.2.2.1 ∧ md r.2.1

def mStoredOk (x : Sto) : Bool := mUriOk x.1 && mResponseOk (x.2.2.1, x.2.2.2.1, x.2.2.2.2.1) && mIn x.2.2.2.2.2.1 0 2000000000 && mIn x.2.2.2.2.2.2 x.2.2.2.2.2.1 2000000000 && decide ((x.2.1.length : Int) ≤ 12)
def pStoredOk (x : Sto) : Prop := md x
def mStandAlike (a b : Sto) : Bool := decide (a.1 = b.1) && decide (a.2.1 = b.2.1)
def pStandAlike (a b : Sto) : Prop := a.2.1.length ≤ maxLen
def mShardSizes (a b : Int) : Bool := mIn a 1 8 && mIn b 0 500
def pShardSizes (a b : Int) : Prop := True
def stoOf (x : Slt) : Sto := (x.1, x.2.1, x.2.2.1, x.2.2.2.1, x.2.2.2.2.1, x.2.2.2.2.2.1, x.2.2.2.2.2.2.1)
def mBodies (r : List Slt) : Int := (sumN (r.map fun x => x.2.2.2.2.1.size) : Nat)
def pBodies (r : List Slt) : Prop := md r
def mFilledS (s : Shd) : Int := mBodies s.2.2.1
def pFilledS (s : Shd) : Prop := md s
def mShardOk_1 (y x : Slt) : Bool := mStandAlike (stoOf x) (stoOf y)
def pShardOk_1 (y x : Slt) : Prop := x.2.1.length ≤ maxLen
def mIndexFunc_ShardOk_1 (l : List Slt) (x : Slt) : Int := idxI (fun y => mShardOk_1 y x) l
def pIndexFunc_ShardOk_1 (l : List Slt) (x : Slt) : Prop := l.length ≤ maxLen ∧ x.2.1.length ≤ maxLen
def mContainsFunc_ShardOk_1 (l : List Slt) (x : Slt) : Bool := l.any fun y => mShardOk_1 y x
def pContainsFunc_ShardOk_1 (l : List Slt) (x : Slt) : Prop := l.length ≤ maxLen ∧ x.2.1.length ≤ maxLen
def ringFine (r : List Slt) : Prop := ∀ i, i < r.length → mStoredOk (stoOf (rx r (i : Int))) = true ∧ ∀ j, j < i → mStandAlike (stoOf (rx r (j : Int))) (stoOf (rx r (i : Int))) = false
open Classical in
noncomputable def mShardOk (s : Shd) : Bool := mShardSizes s.1 s.2.1 && decide ((s.2.2.1.length : Int) ≤ s.1) && (decide (s.2.2.2 = 0) || mIn s.2.2.2 0 ((s.2.2.1.length : Int) - 1)) && decide (ringFine s.2.2.1) && decide (mBodies s.2.2.1 ≤ s.2.1)
def pShardOk (s : Shd) : Prop := md s
end Go.Ev
end

section
/- The plain library: what a cache's functions compute. -/
set_option linter.unusedVariables false
namespace Go.Ev
def fnvStep (h : Int) (b : UInt8) : Int := (IntKind.i64.wrap ((lxor IntKind.i64 h (IntKind.i64.wrap (b.toNat : Int))) * 16777619)).tmod 4294967296
def mFnv (s : S) : Int := (bs s).foldl fnvStep 2166136261
def pFnv (s : S) : Prop := sm s
def mShardOf (c : Cch) (u : S) : Int := if (c.1.length : Int) = 0 then -1 else (mFnv u).tmod (c.1.length : Int)
def pShardOf (c : Cch) (u : S) : Prop := sm u
def mCacheOk_1 (x : Slt) (c : Cch) (i : Int) : Bool := decide (mShardOf c x.1 ≠ i)
def pCacheOk_1 (x : Slt) (c : Cch) (i : Int) : Prop := sm x.1
def mIndexFunc_CacheOk_1 (l : List Slt) (y : Cch × Int) : Int := idxI (fun x => mCacheOk_1 x y.1 y.2) l
def pIndexFunc_CacheOk_1 (l : List Slt) (y : Cch × Int) : Prop := md l
def mContainsFunc_CacheOk_1 (l : List Slt) (y : Cch × Int) : Bool := l.any fun x => mCacheOk_1 x y.1 y.2
def pContainsFunc_CacheOk_1 (l : List Slt) (y : Cch × Int) : Prop := md l
def shardAt (c : Cch) (i : Nat) : Prop := mShardOk (rx c.1 (i : Int)) = true ∧ ∀ j, j < (rx c.1 (i : Int)).2.2.1.length → mShardOf c (rx (rx c.1 (i : Int)).2.2.1 (j : Int)).1 = (i : Int)
def genAt (g : List Gen) (i : Nat) : Prop := mUriOk (rx g (i : Int)).1 = true ∧ mIn (rx g (i : Int)).2 1 1000000 = true ∧ (i = 0 ∨ strLt (rx g ((i - 1 : Nat) : Int)).1 (rx g (i : Int)).1)
def cacheFine (c : Cch) : Prop := mIn (c.1.length : Int) 1 4 = true ∧ (∀ i, i < c.1.length → shardAt c i) ∧ ∀ i, i < c.2.length → genAt c.2 i
open Classical in
noncomputable def mCacheOk (c : Cch) : Bool := decide (cacheFine c)
def pCacheOk (c : Cch) : Prop := md c
def findTo (s : Shd) (q : Req) : Nat → Int
  | 0 => -1
  | i + 1 => if (rx s.2.2.1 (i : Int)).1 = q.2.1 ∧ mVaryFits q ((rx s.2.2.1 (i : Int)).2.2.1, (rx s.2.2.1 (i : Int)).2.2.2.1, (rx s.2.2.1 (i : Int)).2.2.2.2.1) (rx s.2.2.1 (i : Int)).2.1 = true ∧
      (findTo s q i < 0 ∨ (rx s.2.2.1 (findTo s q i)).2.2.2.2.2.2.1 ≤ (rx s.2.2.1 (i : Int)).2.2.2.2.2.2.1) then (i : Int) else findTo s q i
noncomputable def mShardFind (s : Shd) (q : Req) : Int := if q.1 ≠ lit [71, 69, 84] ∨ ¬ mShardOk s = true then -1 else findTo s q s.2.2.1.length
def pShardFind (s : Shd) (q : Req) : Prop := md s ∧ md q
end Go.Ev
end

section
/- The plain library: what the laws' marks are. -/
set_option linter.unusedVariables false
namespace Go.Ev
def mMarkText (k : Int) : S := if k ≤ 0 then lit [109, 48] else lit [109] ++ mDec k
def pMarkText (k : Int) : Prop := in64 k
def markFld : List Fld → Int → List Fld
  | [], _ => []
  | _ :: r, k => (mMarkText k, mMarkText (k + 1)) :: markFld r (k + 2)
def heldFld : List Fld → Int → Int
  | [], k => k
  | f :: r, k => if f.1 ≠ mMarkText k then -1 else if f.2 ≠ mMarkText (k + 1) then -1 else heldFld r (k + 2)
def pMk (n : Nat) (k : Int) : Prop := 0 ≤ k ∧ k ≤ 1099511627776 ∧ n ≤ 1099511627776
def mMarkFieldS (l : List Fld) (k : Int) : Int := k + 2 * l.length
def wMarkFieldS (l : List Fld) (k : Int) : List Fld × Int := (markFld l k, k)
def pMarkFieldS (l : List Fld) (k : Int) : Prop := pMk l.length k
def mHeldFieldS (l : List Fld) (k : Int) : Int := heldFld l k
def pHeldFieldS (l : List Fld) (k : Int) : Prop := pMk l.length k
def mMarkRequest (q : Req) (k : Int) : Int := mMarkFieldS q.2.2.1 k
def wMarkRequest (q : Req) (k : Int) : Req × Int := ((q.1, q.2.1, markFld q.2.2.1 k, q.2.2.2), k)
def pMarkRequest (q : Req) (k : Int) : Prop := pMarkFieldS q.2.2.1 k
theorem markFld_length : ∀ (l : List Fld) (k : Int), (markFld l k).length = l.length
  | [], _ => rfl
  | _ :: r, k => by simp [markFld, markFld_length r]
theorem held_mark : ∀ (l : List Fld) (k : Int), heldFld (markFld l k) k = k + 2 * l.length
  | [], k => by simp [markFld, heldFld]
  | _ :: r, k => by
    simp only [markFld, heldFld, ne_eq, not_true_eq_false, if_false, held_mark r, List.length_cons]
    omega
theorem markFld_get : ∀ (l : List Fld) (k : Int) (i : Nat) (h : i < l.length), (markFld l k)[i]'(by rw [markFld_length]; exact h) = (mMarkText (k + 2 * i), mMarkText (k + 2 * i + 1))
  | f :: r, k, 0, h => by simp [markFld]
  | f :: r, k, i + 1, h => by
    simp only [markFld, List.getElem_cons_succ]
    rw [markFld_get r (k + 2) i (by simpa using h)]
    rw [show k + 2 + 2 * (i : Int) = k + 2 * ((i + 1 : Nat) : Int) by omega]
end Go.Ev
end

section
/- The plain library: marks of texts in a row, FieldSet and WithAge. -/
set_option linter.unusedVariables false
namespace Go.Ev
end Go.Ev
end

section
/- The plain library: marks of what has slices in its slices; copies; ShardTouch. -/
set_option linter.unusedVariables false
namespace Go.Ev
def markL {α : Type} (f : α → Int → α) (c : α → Nat) : List α → Int → List α
  | [], _ => []
  | x :: r, k => f x k :: markL f c r (k + c x)
theorem markL_length {α : Type} {f : α → Int → α} {c : α → Nat} : ∀ (l : List α) (k : Int), (markL f c l k).length = l.length
  | [], _ => rfl
  | x :: r, k => by simp [markL, markL_length r]
theorem markL_get {α : Type} {f : α → Int → α} {c : α → Nat} : ∀ (l : List α) (k : Int) (i : Nat) (h : i < l.length), (markL f c l k)[i]'(by rw [markL_length]; exact h) = f l[i] (k + (sumN ((l.take i).map c) : Nat))
  | x :: r, k, 0, h => by simp [markL, sumN]
  | x :: r, k, i + 1, h => by
    simp only [markL, List.getElem_cons_succ, List.take_succ_cons, List.map_cons, sumN]
    rw [markL_get r (k + c x) i (by simpa using h)]
    congr 1
    omega
theorem markL_cnt {α : Type} {f : α → Int → α} {c : α → Nat} (hc : ∀ x k, c (f x k) = c x) : ∀ (l : List α) (k : Int), sumN ((markL f c l k).map c) = sumN (l.map c)
  | [], _ => rfl
  | x :: r, k => by simp [markL, sumN, hc, markL_cnt hc r]
theorem markL_idem {α : Type} {f : α → Int → α} {c : α → Nat} (hc : ∀ x k, c (f x k) = c x) (hf : ∀ x k, f (f x k) k = f x k) : ∀ (l : List α) (k : Int), markL f c (markL f c l k) k = markL f c l k
  | [], _ => rfl
  | x :: r, k => by simp [markL, hf, hc, markL_idem hc hf r]
theorem sum_le_of {α : Type} {c d : α → Nat} (h : ∀ x, c x ≤ d x) : ∀ (l : List α), sumN (l.map c) ≤ sumN (l.map d)
  | [] => Nat.le_refl _
  | x :: r => by
    have := sum_le_of h r
    have := h x
    simp only [List.map_cons, sumN]
    omega
theorem sum_ge_len {α : Type} {c : α → Nat} {m : Nat} (h : ∀ x, m ≤ c x) : ∀ (l : List α), m * l.length ≤ sumN (l.map c)
  | [] => by simp
  | x :: r => by
    have := sum_ge_len h r
    have := h x
    simp only [List.map_cons, sumN, List.length_cons, Nat.mul_add]
    omega
theorem sum_mul {α : Type} {c : α → Nat} {m n : Nat} : ∀ (l : List α), sumN (l.map fun x => m + n * c x) = m * l.length + n * sumN (l.map c)
  | [] => by simp [sumN]
  | x :: r => by
    simp only [List.map_cons, sumN, List.length_cons, sum_mul r, Nat.mul_add]
    omega
theorem sum_take_succ {α : Type} {c : α → Nat} {l : List α} {i : Nat} (h : i < l.length) : sumN ((l.take (i + 1)).map c) = sumN ((l.take i).map c) + c l[i] := by
  induction l generalizing i with
  | nil => simp at h
  | cons x r ih =>
    cases i with
    | zero => simp [sumN]
    | succ i =>
      simp only [List.take_succ_cons, List.map_cons, sumN, List.getElem_cons_succ]
      rw [ih (by simpa using h)]
      omega
theorem sum_take_le {α : Type} (c : α → Nat) (l : List α) (i : Nat) : sumN ((l.take i).map c) ≤ sumN (l.map c) := by
  induction l generalizing i with
  | nil => simp
  | cons x r ih =>
    cases i with
    | zero => simp [sumN]
    | succ i =>
      simp only [List.take_succ_cons, List.map_cons, sumN]
      have := ih i
      omega
theorem sum_at {α : Type} {c : α → Nat} {l : List α} {i : Nat} (h : i < l.length) : sumN ((l.take i).map c) + c l[i] ≤ sumN (l.map c) := by
  rw [← sum_take_succ h]
  exact sum_take_le c l (i + 1)
def pMn (n : Nat) (k : Int) : Prop := 0 ≤ k ∧ k + (n : Int) ≤ 1099511627776
def cntSlt (x : Slt) : Nat := 6 + 2 * x.2.1.length + 2 * x.2.2.2.1.length
def markSlt (x : Slt) (k : Int) : Slt :=
  (mMarkText k, markFld x.2.1 (k + 1), k + 1 + 2 * (x.2.1.length : Int), markFld x.2.2.2.1 (k + 1 + 2 * (x.2.1.length : Int) + 1), mMarkText (k + 1 + 2 * (x.2.1.length : Int) + 1 + 2 * (x.2.2.2.1.length : Int)),
    k + 1 + 2 * (x.2.1.length : Int) + 1 + 2 * (x.2.2.2.1.length : Int) + 1, k + 1 + 2 * (x.2.1.length : Int) + 1 + 2 * (x.2.2.2.1.length : Int) + 1 + 1,
    decide ((k + 1 + 2 * (x.2.1.length : Int) + 1 + 2 * (x.2.2.2.1.length : Int) + 1 + 1 + 1).tmod 3 = 0))
theorem markFld_idem : ∀ (l : List Fld) (k : Int), markFld (markFld l k) k = markFld l k
  | [], _ => rfl
  | _ :: r, k => by simp [markFld, markFld_idem r]
theorem cnt_markSlt (x : Slt) (k : Int) : cntSlt (markSlt x k) = cntSlt x := by simp [cntSlt, markSlt, markFld_length]
theorem markSlt_idem (x : Slt) (k : Int) : markSlt (markSlt x k) k = markSlt x k := by simp [markSlt, markFld_length, markFld_idem]
def mMarkSlotS (l : List Slt) (k : Int) : Int := k + (sumN (l.map cntSlt) : Nat)
def wMarkSlotS (l : List Slt) (k : Int) : List Slt × Int := (markL markSlt cntSlt l k, k)
def pMarkSlotS (l : List Slt) (k : Int) : Prop := pMn (sumN (l.map cntSlt)) k
def mHeldSlotS (l : List Slt) (k : Int) : Int := k + (sumN (l.map cntSlt) : Nat)
def pHeldSlotS (l : List Slt) (k : Int) : Prop := pMn (sumN (l.map cntSlt)) k ∧ markL markSlt cntSlt l k = l
def cntShd (x : Shd) : Nat := 3 + sumN (x.2.2.1.map cntSlt)
def markShd (x : Shd) (k : Int) : Shd := (k, k + 1, markL markSlt cntSlt x.2.2.1 (k + 1 + 1), k + 1 + 1 + (sumN (x.2.2.1.map cntSlt) : Nat))
theorem cnt_markShd (x : Shd) (k : Int) : cntShd (markShd x k) = cntShd x := by simp [cntShd, markShd, markL_cnt cnt_markSlt]
theorem markShd_idem (x : Shd) (k : Int) : markShd (markShd x k) k = markShd x k := by simp [markShd, markL_cnt cnt_markSlt, markL_idem cnt_markSlt markSlt_idem]
def mMarkShardS (l : List Shd) (k : Int) : Int := k + (sumN (l.map cntShd) : Nat)
def wMarkShardS (l : List Shd) (k : Int) : List Shd × Int := (markL markShd cntShd l k, k)
def pMarkShardS (l : List Shd) (k : Int) : Prop := pMn (sumN (l.map cntShd)) k
def mHeldShardS (l : List Shd) (k : Int) : Int := k + (sumN (l.map cntShd) : Nat)
def pHeldShardS (l : List Shd) (k : Int) : Prop := pMn (sumN (l.map cntShd)) k ∧ markL markShd cntShd l k = l
def cntGen (_ : Gen) : Nat := 2
def markGen (_ : Gen) (k : Int) : Gen := (mMarkText k, k + 1)
theorem sum_gen : ∀ (l : List Gen), sumN (l.map cntGen) = 2 * l.length
  | [] => rfl
  | _ :: r => by simp only [List.map_cons, sumN, sum_gen r, cntGen, List.length_cons]; omega
def mMarkGenRowS (l : List Gen) (k : Int) : Int := k + (sumN (l.map cntGen) : Nat)
def wMarkGenRowS (l : List Gen) (k : Int) : List Gen × Int := (markL markGen cntGen l k, k)
def pMarkGenRowS (l : List Gen) (k : Int) : Prop := pMn (sumN (l.map cntGen)) k
def mHeldGenRowS (l : List Gen) (k : Int) : Int := k + (sumN (l.map cntGen) : Nat)
def pHeldGenRowS (l : List Gen) (k : Int) : Prop := pMn (sumN (l.map cntGen)) k ∧ markL markGen cntGen l k = l
def mMarkCache (c : Cch) (k : Int) : Int := mMarkGenRowS c.2 (mMarkShardS c.1 k)
def wMarkCache (c : Cch) (k : Int) : Cch × Int := ((markL markShd cntShd c.1 k, markL markGen cntGen c.2 (mMarkShardS c.1 k)), k)
def pMarkCache (c : Cch) (k : Int) : Prop := pMn (sumN (c.1.map cntShd) + sumN (c.2.map cntGen)) k
def mHeldCache (c : Cch) (k : Int) : Int := mHeldGenRowS c.2 (mHeldShardS c.1 k)
def pHeldCache (c : Cch) (k : Int) : Prop := pMn (sumN (c.1.map cntShd) + sumN (c.2.map cntGen)) k ∧ markL markShd cntShd c.1 k = c.1 ∧ markL markGen cntGen c.2 (mHeldShardS c.1 k) = c.2
def mClone_Field (l : List Fld) : List Fld := l
def pClone_Field (l : List Fld) : Prop := l.length ≤ 1099511627776
def mClone_GenRow (l : List Gen) : List Gen := l
def pClone_GenRow (l : List Gen) : Prop := l.length ≤ 1099511627776
def mCloneResponse (r : Rsp) : Rsp := r
def pCloneResponse (r : Rsp) : Prop := md r
def mCloneStored (x : Sto) : Sto := x
def pCloneStored (x : Sto) : Prop := md x
def mCloneShard (s : Shd) : Shd := s
def pCloneShard (s : Shd) : Prop := md s
def mCloneCache (c : Cch) : Cch := c
def pCloneCache (c : Cch) : Prop := md c
def mL12Resp (r : Rsp) : Rsp := r
def pL12Resp (r : Rsp) : Prop := md r
def mL12One (x : Sto) : Sto := x
def pL12One (x : Sto) : Prop := md x
def mL12Copy (s : Shd) : Shd := s
def pL12Copy (s : Shd) : Prop := md s
def mL13Copy (c : Cch) : Cch := c
def pL13Copy (c : Cch) : Prop := md c
def touched (x : Slt) : Slt := (x.1, x.2.1, x.2.2.1, x.2.2.2.1, x.2.2.2.2.1, x.2.2.2.2.2.1, x.2.2.2.2.2.2.1, true)
noncomputable def mShardTouch (s : Shd) (i : Int) : Shd :=
  if mShardOk s = true then (if mIn i 0 ((s.2.2.1.length : Int) - 1) = true then (s.1, s.2.1, s.2.2.1.set i.toNat (touched (rx s.2.2.1 i)), s.2.2.2) else s) else s
def pShardTouch (s : Shd) (i : Int) : Prop := md s
noncomputable def mCacheHit (c : Cch) (q : Req) : Cch :=
  if mCacheOk c = true then (c.1.set (mShardOf c q.2.1).toNat (mShardTouch (rx c.1 (mShardOf c q.2.1)) (mShardFind (rx c.1 (mShardOf c q.2.1)) q)), c.2) else c
def pCacheHit (c : Cch) (q : Req) : Prop := md c ∧ md q
end Go.Ev
end

section
/- What the program's functions come to, each by itself: printed by a program of this session's own (EwShow) out of the small machine. -/
set_option linter.unusedVariables false
namespace Go.Ev

def s_impl_CacheHit (a0 : Cch) (a1 : Req) (Q : (Cch → Prop)) : Prop :=
  pCloneCache a0 ∧
  pCacheOk a0 ∧
  (¬ ((mCacheOk a0) = true) →
    (Q (mCloneCache a0))) ∧
  (¬ (¬ ((mCacheOk a0) = true)) →
    pShardOf a0 a1.2.1 ∧
    0 ≤ (mShardOf a0 a1.2.1) ∧
    (mShardOf a0 a1.2.1) < (a0.1.length : Int) ∧
    0 ≤ (mShardOf a0 a1.2.1) ∧
    (mShardOf a0 a1.2.1) < (a0.1.length : Int) ∧
    pShardFind (rx a0.1 (mShardOf a0 a1.2.1)) a1 ∧
    pShardTouch (rx a0.1 (mShardOf a0 a1.2.1)) (mShardFind (rx a0.1 (mShardOf a0 a1.2.1)) a1) ∧
    0 ≤ (mShardOf a0 a1.2.1) ∧
    (mShardOf a0 a1.2.1) < ((mCloneCache a0).1.length : Int) ∧
    (Q (((mCloneCache a0).1.set (mShardOf a0 a1.2.1).toNat (mShardTouch (rx a0.1 (mShardOf a0 a1.2.1)) (mShardFind (rx a0.1 (mShardOf a0 a1.2.1)) a1))), (mCloneCache a0).2)))

def s_impl_ShardTouch (a0 : Shd) (a1 : Int) (Q : (Shd → Prop)) : Prop :=
  pCloneShard a0 ∧
  pShardOk a0 ∧
  ((mShardOk a0) = true →
    pIn a1 0 (IntKind.i64.wrap ((a0.2.2.1.length : Int) - 1)) ∧
    ((mIn a1 0 (IntKind.i64.wrap ((a0.2.2.1.length : Int) - 1))) = true →
      0 ≤ a1 ∧
      a1 < ((mCloneShard a0).2.2.1.length : Int) ∧
      (∀ y0 : (List Slt),
        (y0 = ((mCloneShard a0).2.2.1.set a1.toNat ((rx (mCloneShard a0).2.2.1 a1).1, (rx (mCloneShard a0).2.2.1 a1).2.1, (rx (mCloneShard a0).2.2.1 a1).2.2.1, (rx (mCloneShard a0).2.2.1 a1).2.2.2.1, (rx (mCloneShard a0).2.2.1 a1).2.2.2.2.1, (rx (mCloneShard a0).2.2.1 a1).2.2.2.2.2.1, (rx (mCloneShard a0).2.2.1 a1).2.2.2.2.2.2.1, true)) →
          (Q ((mCloneShard a0).1, (mCloneShard a0).2.1, y0, (mCloneShard a0).2.2.2))))) ∧
    (¬ ((mIn a1 0 (IntKind.i64.wrap ((a0.2.2.1.length : Int) - 1))) = true) →
      (Q (mCloneShard a0)))) ∧
  (¬ ((mShardOk a0) = true) →
    (Q (mCloneShard a0)))

def s_impl_cloneCache (a0 : Cch) (Q : (Cch → Prop)) : Prop :=
  pClone_GenRow a0.2 ∧
  (∀ L0 : ((Int × Cch) → Prop),
    ((
        (∀ y1 : (Int × Cch),
          ((
              (y1.1 < (a0.1.length : Int) →
                0 ≤ y1.1 ∧
                y1.1 < (a0.1.length : Int) ∧
                pCloneShard (rx a0.1 y1.1) ∧
                (y1.2.1.length + [(mCloneShard (rx a0.1 y1.1))].length) * 48 ≤ 140737488355328 ∧
                (L0 ((IntKind.i64.wrap (y1.1 + 1)), (y1.2.1 ++ [(mCloneShard (rx a0.1 y1.1))]), y1.2.2))) ∧
              (¬ (y1.1 < (a0.1.length : Int)) →
                (Q y1.2))
            ) →
            (L0 y1)))
      ) →
      (L0 (0, [], (mClone_GenRow a0.2)))))

def s_impl_cloneResponse (a0 : Rsp) (Q : (Rsp → Prop)) : Prop :=
  pClone_Field a0.2.1 ∧
  (Q (a0.1, (mClone_Field a0.2.1), a0.2.2))

def s_impl_cloneShard (a0 : Shd) (Q : (Shd → Prop)) : Prop :=
  (∀ L0 : (((List Slt) × Int) → Prop),
    ((
        (∀ y1 : ((List Slt) × Int),
          ((
              (y1.2 < (a0.2.2.1.length : Int) →
                0 ≤ y1.2 ∧
                y1.2 < (a0.2.2.1.length : Int) ∧
                pCloneStored ((rx a0.2.2.1 y1.2).1, (rx a0.2.2.1 y1.2).2.1, (rx a0.2.2.1 y1.2).2.2.1, (rx a0.2.2.1 y1.2).2.2.2.1, (rx a0.2.2.1 y1.2).2.2.2.2.1, (rx a0.2.2.1 y1.2).2.2.2.2.2.1, (rx a0.2.2.1 y1.2).2.2.2.2.2.2.1) ∧
                (y1.1.length + [((mCloneStored ((rx a0.2.2.1 y1.2).1, (rx a0.2.2.1 y1.2).2.1, (rx a0.2.2.1 y1.2).2.2.1, (rx a0.2.2.1 y1.2).2.2.2.1, (rx a0.2.2.1 y1.2).2.2.2.2.1, (rx a0.2.2.1 y1.2).2.2.2.2.2.1, (rx a0.2.2.1 y1.2).2.2.2.2.2.2.1)).1, (mCloneStored ((rx a0.2.2.1 y1.2).1, (rx a0.2.2.1 y1.2).2.1, (rx a0.2.2.1 y1.2).2.2.1, (rx a0.2.2.1 y1.2).2.2.2.1, (rx a0.2.2.1 y1.2).2.2.2.2.1, (rx a0.2.2.1 y1.2).2.2.2.2.2.1, (rx a0.2.2.1 y1.2).2.2.2.2.2.2.1)).2.1, (mCloneStored ((rx a0.2.2.1 y1.2).1, (rx a0.2.2.1 y1.2).2.1, (rx a0.2.2.1 y1.2).2.2.1, (rx a0.2.2.1 y1.2).2.2.2.1, (rx a0.2.2.1 y1.2).2.2.2.2.1, (rx a0.2.2.1 y1.2).2.2.2.2.2.1, (rx a0.2.2.1 y1.2).2.2.2.2.2.2.1)).2.2.1, (mCloneStored ((rx a0.2.2.1 y1.2).1, (rx a0.2.2.1 y1.2).2.1, (rx a0.2.2.1 y1.2).2.2.1, (rx a0.2.2.1 y1.2).2.2.2.1, (rx a0.2.2.1 y1.2).2.2.2.2.1, (rx a0.2.2.1 y1.2).2.2.2.2.2.1, (rx a0.2.2.1 y1.2).2.2.2.2.2.2.1)).2.2.2.1, (mCloneStored ((rx a0.2.2.1 y1.2).1, (rx a0.2.2.1 y1.2).2.1, (rx a0.2.2.1 y1.2).2.2.1, (rx a0.2.2.1 y1.2).2.2.2.1, (rx a0.2.2.1 y1.2).2.2.2.2.1, (rx a0.2.2.1 y1.2).2.2.2.2.2.1, (rx a0.2.2.1 y1.2).2.2.2.2.2.2.1)).2.2.2.2.1, (mCloneStored ((rx a0.2.2.1 y1.2).1, (rx a0.2.2.1 y1.2).2.1, (rx a0.2.2.1 y1.2).2.2.1, (rx a0.2.2.1 y1.2).2.2.2.1, (rx a0.2.2.1 y1.2).2.2.2.2.1, (rx a0.2.2.1 y1.2).2.2.2.2.2.1, (rx a0.2.2.1 y1.2).2.2.2.2.2.2.1)).2.2.2.2.2.1, (mCloneStored ((rx a0.2.2.1 y1.2).1, (rx a0.2.2.1 y1.2).2.1, (rx a0.2.2.1 y1.2).2.2.1, (rx a0.2.2.1 y1.2).2.2.2.1, (rx a0.2.2.1 y1.2).2.2.2.2.1, (rx a0.2.2.1 y1.2).2.2.2.2.2.1, (rx a0.2.2.1 y1.2).2.2.2.2.2.2.1)).2.2.2.2.2.2, (rx a0.2.2.1 y1.2).2.2.2.2.2.2.2)].length) * 112 ≤ 140737488355328 ∧
                (L0 ((y1.1 ++ [((mCloneStored ((rx a0.2.2.1 y1.2).1, (rx a0.2.2.1 y1.2).2.1, (rx a0.2.2.1 y1.2).2.2.1, (rx a0.2.2.1 y1.2).2.2.2.1, (rx a0.2.2.1 y1.2).2.2.2.2.1, (rx a0.2.2.1 y1.2).2.2.2.2.2.1, (rx a0.2.2.1 y1.2).2.2.2.2.2.2.1)).1, (mCloneStored ((rx a0.2.2.1 y1.2).1, (rx a0.2.2.1 y1.2).2.1, (rx a0.2.2.1 y1.2).2.2.1, (rx a0.2.2.1 y1.2).2.2.2.1, (rx a0.2.2.1 y1.2).2.2.2.2.1, (rx a0.2.2.1 y1.2).2.2.2.2.2.1, (rx a0.2.2.1 y1.2).2.2.2.2.2.2.1)).2.1, (mCloneStored ((rx a0.2.2.1 y1.2).1, (rx a0.2.2.1 y1.2).2.1, (rx a0.2.2.1 y1.2).2.2.1, (rx a0.2.2.1 y1.2).2.2.2.1, (rx a0.2.2.1 y1.2).2.2.2.2.1, (rx a0.2.2.1 y1.2).2.2.2.2.2.1, (rx a0.2.2.1 y1.2).2.2.2.2.2.2.1)).2.2.1, (mCloneStored ((rx a0.2.2.1 y1.2).1, (rx a0.2.2.1 y1.2).2.1, (rx a0.2.2.1 y1.2).2.2.1, (rx a0.2.2.1 y1.2).2.2.2.1, (rx a0.2.2.1 y1.2).2.2.2.2.1, (rx a0.2.2.1 y1.2).2.2.2.2.2.1, (rx a0.2.2.1 y1.2).2.2.2.2.2.2.1)).2.2.2.1, (mCloneStored ((rx a0.2.2.1 y1.2).1, (rx a0.2.2.1 y1.2).2.1, (rx a0.2.2.1 y1.2).2.2.1, (rx a0.2.2.1 y1.2).2.2.2.1, (rx a0.2.2.1 y1.2).2.2.2.2.1, (rx a0.2.2.1 y1.2).2.2.2.2.2.1, (rx a0.2.2.1 y1.2).2.2.2.2.2.2.1)).2.2.2.2.1, (mCloneStored ((rx a0.2.2.1 y1.2).1, (rx a0.2.2.1 y1.2).2.1, (rx a0.2.2.1 y1.2).2.2.1, (rx a0.2.2.1 y1.2).2.2.2.1, (rx a0.2.2.1 y1.2).2.2.2.2.1, (rx a0.2.2.1 y1.2).2.2.2.2.2.1, (rx a0.2.2.1 y1.2).2.2.2.2.2.2.1)).2.2.2.2.2.1, (mCloneStored ((rx a0.2.2.1 y1.2).1, (rx a0.2.2.1 y1.2).2.1, (rx a0.2.2.1 y1.2).2.2.1, (rx a0.2.2.1 y1.2).2.2.2.1, (rx a0.2.2.1 y1.2).2.2.2.2.1, (rx a0.2.2.1 y1.2).2.2.2.2.2.1, (rx a0.2.2.1 y1.2).2.2.2.2.2.2.1)).2.2.2.2.2.2, (rx a0.2.2.1 y1.2).2.2.2.2.2.2.2)]), (IntKind.i64.wrap (y1.2 + 1))))) ∧
              (¬ (y1.2 < (a0.2.2.1.length : Int)) →
                (Q (a0.1, a0.2.1, y1.1, a0.2.2.2)))
            ) →
            (L0 y1)))
      ) →
      (L0 ([], 0))))

def s_impl_cloneStored (a0 : Sto) (Q : (Sto → Prop)) : Prop :=
  pClone_Field a0.2.1 ∧
  pCloneResponse (a0.2.2.1, a0.2.2.2.1, a0.2.2.2.2.1) ∧
  (Q (a0.1, (mClone_Field a0.2.1), (mCloneResponse (a0.2.2.1, a0.2.2.2.1, a0.2.2.2.2.1)).1, (mCloneResponse (a0.2.2.1, a0.2.2.2.1, a0.2.2.2.2.1)).2.1, (mCloneResponse (a0.2.2.1, a0.2.2.2.1, a0.2.2.2.2.1)).2.2, a0.2.2.2.2.2))

def s_laws_heldCache (a0 : Cch) (a1 : Int) (Q : (Int → Prop)) : Prop :=
  pHeldShardS a0.1 a1 ∧
  ((mHeldShardS a0.1 a1) < 0 →
    (Q (-1))) ∧
  (¬ ((mHeldShardS a0.1 a1) < 0) →
    pHeldGenRowS a0.2 (mHeldShardS a0.1 a1) ∧
    ((mHeldGenRowS a0.2 (mHeldShardS a0.1 a1)) < 0 →
      (Q (-1))) ∧
    (¬ ((mHeldGenRowS a0.2 (mHeldShardS a0.1 a1)) < 0) →
      (Q (mHeldGenRowS a0.2 (mHeldShardS a0.1 a1)))))

def s_laws_heldGenRowS (a0 : (List Gen)) (a1 : Int) (Q : (Int → Prop)) : Prop :=
  (∀ L0 : ((Int × Int) → Prop),
    ((
        (∀ y1 : (Int × Int),
          ((
              (y1.2 < (a0.length : Int) →
                0 ≤ y1.2 ∧
                y1.2 < (a0.length : Int) ∧
                pMarkText y1.1 ∧
                ((rx a0 y1.2).1 ≠ (mMarkText y1.1) →
                  (Q (-1))) ∧
                (¬ ((rx a0 y1.2).1 ≠ (mMarkText y1.1)) →
                  0 ≤ y1.2 ∧
                  y1.2 < (a0.length : Int) ∧
                  ((rx a0 y1.2).2 ≠ (IntKind.i64.wrap (y1.1 + 1)) →
                    (Q (-1))) ∧
                  (¬ ((rx a0 y1.2).2 ≠ (IntKind.i64.wrap (y1.1 + 1))) →
                    (L0 ((IntKind.i64.wrap ((IntKind.i64.wrap (y1.1 + 1)) + 1)), (IntKind.i64.wrap (y1.2 + 1))))))) ∧
              (¬ (y1.2 < (a0.length : Int)) →
                (Q y1.1))
            ) →
            (L0 y1)))
      ) →
      (L0 (a1, 0))))

def s_laws_heldShardS (a0 : (List Shd)) (a1 : Int) (Q : (Int → Prop)) : Prop :=
  (∀ L0 : ((Int × Int) → Prop),
    ((
        (∀ y1 : (Int × Int),
          ((
              (y1.2 < (a0.length : Int) →
                0 ≤ y1.2 ∧
                y1.2 < (a0.length : Int) ∧
                ((rx a0 y1.2).1 ≠ y1.1 →
                  (Q (-1))) ∧
                (¬ ((rx a0 y1.2).1 ≠ y1.1) →
                  0 ≤ y1.2 ∧
                  y1.2 < (a0.length : Int) ∧
                  ((rx a0 y1.2).2.1 ≠ (IntKind.i64.wrap (y1.1 + 1)) →
                    (Q (-1))) ∧
                  (¬ ((rx a0 y1.2).2.1 ≠ (IntKind.i64.wrap (y1.1 + 1))) →
                    0 ≤ y1.2 ∧
                    y1.2 < (a0.length : Int) ∧
                    pHeldSlotS (rx a0 y1.2).2.2.1 (IntKind.i64.wrap ((IntKind.i64.wrap (y1.1 + 1)) + 1)) ∧
                    ((mHeldSlotS (rx a0 y1.2).2.2.1 (IntKind.i64.wrap ((IntKind.i64.wrap (y1.1 + 1)) + 1))) < 0 →
                      (Q (-1))) ∧
                    (¬ ((mHeldSlotS (rx a0 y1.2).2.2.1 (IntKind.i64.wrap ((IntKind.i64.wrap (y1.1 + 1)) + 1))) < 0) →
                      0 ≤ y1.2 ∧
                      y1.2 < (a0.length : Int) ∧
                      ((rx a0 y1.2).2.2.2 ≠ (mHeldSlotS (rx a0 y1.2).2.2.1 (IntKind.i64.wrap ((IntKind.i64.wrap (y1.1 + 1)) + 1))) →
                        (Q (-1))) ∧
                      (¬ ((rx a0 y1.2).2.2.2 ≠ (mHeldSlotS (rx a0 y1.2).2.2.1 (IntKind.i64.wrap ((IntKind.i64.wrap (y1.1 + 1)) + 1)))) →
                        (L0 ((IntKind.i64.wrap ((mHeldSlotS (rx a0 y1.2).2.2.1 (IntKind.i64.wrap ((IntKind.i64.wrap (y1.1 + 1)) + 1))) + 1)), (IntKind.i64.wrap (y1.2 + 1))))))))) ∧
              (¬ (y1.2 < (a0.length : Int)) →
                (Q y1.1))
            ) →
            (L0 y1)))
      ) →
      (L0 (a1, 0))))

def s_laws_heldSlotS (a0 : (List Slt)) (a1 : Int) (Q : (Int → Prop)) : Prop :=
  (∀ L0 : ((Int × Int) → Prop),
    ((
        (∀ y1 : (Int × Int),
          ((
              (y1.2 < (a0.length : Int) →
                0 ≤ y1.2 ∧
                y1.2 < (a0.length : Int) ∧
                pMarkText y1.1 ∧
                ((rx a0 y1.2).1 ≠ (mMarkText y1.1) →
                  (Q (-1))) ∧
                (¬ ((rx a0 y1.2).1 ≠ (mMarkText y1.1)) →
                  0 ≤ y1.2 ∧
                  y1.2 < (a0.length : Int) ∧
                  pHeldFieldS (rx a0 y1.2).2.1 (IntKind.i64.wrap (y1.1 + 1)) ∧
                  ((mHeldFieldS (rx a0 y1.2).2.1 (IntKind.i64.wrap (y1.1 + 1))) < 0 →
                    (Q (-1))) ∧
                  (¬ ((mHeldFieldS (rx a0 y1.2).2.1 (IntKind.i64.wrap (y1.1 + 1))) < 0) →
                    0 ≤ y1.2 ∧
                    y1.2 < (a0.length : Int) ∧
                    ((rx a0 y1.2).2.2.1 ≠ (mHeldFieldS (rx a0 y1.2).2.1 (IntKind.i64.wrap (y1.1 + 1))) →
                      (Q (-1))) ∧
                    (¬ ((rx a0 y1.2).2.2.1 ≠ (mHeldFieldS (rx a0 y1.2).2.1 (IntKind.i64.wrap (y1.1 + 1)))) →
                      0 ≤ y1.2 ∧
                      y1.2 < (a0.length : Int) ∧
                      pHeldFieldS (rx a0 y1.2).2.2.2.1 (IntKind.i64.wrap ((mHeldFieldS (rx a0 y1.2).2.1 (IntKind.i64.wrap (y1.1 + 1))) + 1)) ∧
                      ((mHeldFieldS (rx a0 y1.2).2.2.2.1 (IntKind.i64.wrap ((mHeldFieldS (rx a0 y1.2).2.1 (IntKind.i64.wrap (y1.1 + 1))) + 1))) < 0 →
                        (Q (-1))) ∧
                      (¬ ((mHeldFieldS (rx a0 y1.2).2.2.2.1 (IntKind.i64.wrap ((mHeldFieldS (rx a0 y1.2).2.1 (IntKind.i64.wrap (y1.1 + 1))) + 1))) < 0) →
                        0 ≤ y1.2 ∧
                        y1.2 < (a0.length : Int) ∧
                        pMarkText (mHeldFieldS (rx a0 y1.2).2.2.2.1 (IntKind.i64.wrap ((mHeldFieldS (rx a0 y1.2).2.1 (IntKind.i64.wrap (y1.1 + 1))) + 1))) ∧
                        ((rx a0 y1.2).2.2.2.2.1 ≠ (mMarkText (mHeldFieldS (rx a0 y1.2).2.2.2.1 (IntKind.i64.wrap ((mHeldFieldS (rx a0 y1.2).2.1 (IntKind.i64.wrap (y1.1 + 1))) + 1)))) →
                          (Q (-1))) ∧
                        (¬ ((rx a0 y1.2).2.2.2.2.1 ≠ (mMarkText (mHeldFieldS (rx a0 y1.2).2.2.2.1 (IntKind.i64.wrap ((mHeldFieldS (rx a0 y1.2).2.1 (IntKind.i64.wrap (y1.1 + 1))) + 1))))) →
                          0 ≤ y1.2 ∧
                          y1.2 < (a0.length : Int) ∧
                          ((rx a0 y1.2).2.2.2.2.2.1 ≠ (IntKind.i64.wrap ((mHeldFieldS (rx a0 y1.2).2.2.2.1 (IntKind.i64.wrap ((mHeldFieldS (rx a0 y1.2).2.1 (IntKind.i64.wrap (y1.1 + 1))) + 1))) + 1)) →
                            (Q (-1))) ∧
                          (¬ ((rx a0 y1.2).2.2.2.2.2.1 ≠ (IntKind.i64.wrap ((mHeldFieldS (rx a0 y1.2).2.2.2.1 (IntKind.i64.wrap ((mHeldFieldS (rx a0 y1.2).2.1 (IntKind.i64.wrap (y1.1 + 1))) + 1))) + 1))) →
                            0 ≤ y1.2 ∧
                            y1.2 < (a0.length : Int) ∧
                            ((rx a0 y1.2).2.2.2.2.2.2.1 ≠ (IntKind.i64.wrap ((IntKind.i64.wrap ((mHeldFieldS (rx a0 y1.2).2.2.2.1 (IntKind.i64.wrap ((mHeldFieldS (rx a0 y1.2).2.1 (IntKind.i64.wrap (y1.1 + 1))) + 1))) + 1)) + 1)) →
                              (Q (-1))) ∧
                            (¬ ((rx a0 y1.2).2.2.2.2.2.2.1 ≠ (IntKind.i64.wrap ((IntKind.i64.wrap ((mHeldFieldS (rx a0 y1.2).2.2.2.1 (IntKind.i64.wrap ((mHeldFieldS (rx a0 y1.2).2.1 (IntKind.i64.wrap (y1.1 + 1))) + 1))) + 1)) + 1))) →
                              0 ≤ y1.2 ∧
                              y1.2 < (a0.length : Int) ∧
                              (3 : Int) ≠ 0 ∧
                              ((rx a0 y1.2).2.2.2.2.2.2.2 ≠ (decide (((IntKind.i64.wrap ((IntKind.i64.wrap ((IntKind.i64.wrap ((mHeldFieldS (rx a0 y1.2).2.2.2.1 (IntKind.i64.wrap ((mHeldFieldS (rx a0 y1.2).2.1 (IntKind.i64.wrap (y1.1 + 1))) + 1))) + 1)) + 1)) + 1)).tmod 3) = 0)) →
                                (Q (-1))) ∧
                              (¬ ((rx a0 y1.2).2.2.2.2.2.2.2 ≠ (decide (((IntKind.i64.wrap ((IntKind.i64.wrap ((IntKind.i64.wrap ((mHeldFieldS (rx a0 y1.2).2.2.2.1 (IntKind.i64.wrap ((mHeldFieldS (rx a0 y1.2).2.1 (IntKind.i64.wrap (y1.1 + 1))) + 1))) + 1)) + 1)) + 1)).tmod 3) = 0))) →
                                (L0 ((IntKind.i64.wrap ((IntKind.i64.wrap ((IntKind.i64.wrap ((IntKind.i64.wrap ((mHeldFieldS (rx a0 y1.2).2.2.2.1 (IntKind.i64.wrap ((mHeldFieldS (rx a0 y1.2).2.1 (IntKind.i64.wrap (y1.1 + 1))) + 1))) + 1)) + 1)) + 1)) + 1)), (IntKind.i64.wrap (y1.2 + 1))))))))))))) ∧
              (¬ (y1.2 < (a0.length : Int)) →
                (Q y1.1))
            ) →
            (L0 y1)))
      ) →
      (L0 (a1, 0))))

def s_laws_markCache (a0 : Cch) (a1 : Int) (Q : (Int → ((Cch × Int) → Prop))) : Prop :=
  pMarkShardS a0.1 a1 ∧
  pMarkGenRowS a0.2 (mMarkShardS a0.1 a1) ∧
  (Q (mMarkGenRowS a0.2 (mMarkShardS a0.1 a1)) (((wMarkShardS a0.1 a1).1, (wMarkGenRowS a0.2 (mMarkShardS a0.1 a1)).1), a1))

def s_laws_markGenRowS (a0 : (List Gen)) (a1 : Int) (Q : (Int → (((List Gen) × Int) → Prop))) : Prop :=
  (∀ L0 : ((Int × (Int × (List Gen))) → Prop),
    ((
        (∀ y1 : (Int × (Int × (List Gen))),
          ((
              (y1.2.1 < (y1.2.2.length : Int) →
                pMarkText y1.1 ∧
                0 ≤ y1.2.1 ∧
                y1.2.1 < (y1.2.2.length : Int) ∧
                0 ≤ y1.2.1 ∧
                y1.2.1 < ((y1.2.2.set y1.2.1.toNat ((mMarkText y1.1), (rx y1.2.2 y1.2.1).2)).length : Int) ∧
                (L0 ((IntKind.i64.wrap ((IntKind.i64.wrap (y1.1 + 1)) + 1)), (IntKind.i64.wrap (y1.2.1 + 1)), ((y1.2.2.set y1.2.1.toNat ((mMarkText y1.1), (rx y1.2.2 y1.2.1).2)).set y1.2.1.toNat ((rx (y1.2.2.set y1.2.1.toNat ((mMarkText y1.1), (rx y1.2.2 y1.2.1).2)) y1.2.1).1, (IntKind.i64.wrap (y1.1 + 1))))))) ∧
              (¬ (y1.2.1 < (y1.2.2.length : Int)) →
                (Q y1.1 (y1.2.2, a1)))
            ) →
            (L0 y1)))
      ) →
      (L0 (a1, 0, a0))))

def s_laws_markShardS (a0 : (List Shd)) (a1 : Int) (Q : (Int → (((List Shd) × Int) → Prop))) : Prop :=
  (∀ L0 : ((Int × (Int × (List Shd))) → Prop),
    ((
        (∀ y1 : (Int × (Int × (List Shd))),
          ((
              (y1.2.1 < (y1.2.2.length : Int) →
                0 ≤ y1.2.1 ∧
                y1.2.1 < (y1.2.2.length : Int) ∧
                (∀ y2 : (List Shd),
                  (y2 = (y1.2.2.set y1.2.1.toNat (y1.1, (rx y1.2.2 y1.2.1).2)) →
                    0 ≤ y1.2.1 ∧
                    y1.2.1 < (y2.length : Int) ∧
                    (∀ y3 : (List Shd),
                      (y3 = (y2.set y1.2.1.toNat ((rx y2 y1.2.1).1, (IntKind.i64.wrap (y1.1 + 1)), (rx y2 y1.2.1).2.2)) →
                        0 ≤ y1.2.1 ∧
                        y1.2.1 < (y3.length : Int) ∧
                        (∀ y4 : (List Slt),
                          (y4 = (rx y3 y1.2.1).2.2.1 →
                            (∀ y5 : (List Shd),
                              (y5 = (y3.set y1.2.1.toNat ((rx y3 y1.2.1).1, (rx y3 y1.2.1).2.1, [], (rx y3 y1.2.1).2.2.2)) →
                                pMarkSlotS y4 (IntKind.i64.wrap ((IntKind.i64.wrap (y1.1 + 1)) + 1)) ∧
                                (∀ y6 : (List Shd),
                                  (y6 = (y5.set y1.2.1.toNat ((rx y5 y1.2.1).1, (rx y5 y1.2.1).2.1, (wMarkSlotS y4 (IntKind.i64.wrap ((IntKind.i64.wrap (y1.1 + 1)) + 1))).1, (rx y5 y1.2.1).2.2.2)) →
                                    (∀ y7 : (List Slt),
                                      (y7 = (wMarkSlotS y4 (IntKind.i64.wrap ((IntKind.i64.wrap (y1.1 + 1)) + 1))).1 →
                                        0 ≤ y1.2.1 ∧
                                        y1.2.1 < (y6.length : Int) ∧
                                        (∀ y8 : (List Shd),
                                          (y8 = (y6.set y1.2.1.toNat ((rx y6 y1.2.1).1, (rx y6 y1.2.1).2.1, (rx y6 y1.2.1).2.2.1, (mMarkSlotS y4 (IntKind.i64.wrap ((IntKind.i64.wrap (y1.1 + 1)) + 1))))) →
                                            (L0 ((IntKind.i64.wrap ((mMarkSlotS y4 (IntKind.i64.wrap ((IntKind.i64.wrap (y1.1 + 1)) + 1))) + 1)), (IntKind.i64.wrap (y1.2.1 + 1)), y8))))))))))))))))) ∧
              (¬ (y1.2.1 < (y1.2.2.length : Int)) →
                (Q y1.1 (y1.2.2, a1)))
            ) →
            (L0 y1)))
      ) →
      (L0 (a1, 0, a0))))

def s_laws_markSlotS (a0 : (List Slt)) (a1 : Int) (Q : (Int → (((List Slt) × Int) → Prop))) : Prop :=
  (∀ L0 : ((Int × (Int × (List Slt))) → Prop),
    ((
        (∀ y1 : (Int × (Int × (List Slt))),
          ((
              (y1.2.1 < (y1.2.2.length : Int) →
                pMarkText y1.1 ∧
                0 ≤ y1.2.1 ∧
                y1.2.1 < (y1.2.2.length : Int) ∧
                (∀ y2 : (List Slt),
                  (y2 = (y1.2.2.set y1.2.1.toNat ((mMarkText y1.1), (rx y1.2.2 y1.2.1).2)) →
                    0 ≤ y1.2.1 ∧
                    y1.2.1 < (y2.length : Int) ∧
                    (∀ y3 : (List Slt),
                      (y3 = (y2.set y1.2.1.toNat ((rx y2 y1.2.1).1, [], (rx y2 y1.2.1).2.2)) →
                        pMarkFieldS (rx y2 y1.2.1).2.1 (IntKind.i64.wrap (y1.1 + 1)) ∧
                        (∀ y4 : (List Slt),
                          (y4 = (y3.set y1.2.1.toNat ((rx y3 y1.2.1).1, (wMarkFieldS (rx y2 y1.2.1).2.1 (IntKind.i64.wrap (y1.1 + 1))).1, (rx y3 y1.2.1).2.2)) →
                            0 ≤ y1.2.1 ∧
                            y1.2.1 < (y4.length : Int) ∧
                            (∀ y5 : (List Slt),
                              (y5 = (y4.set y1.2.1.toNat ((rx y4 y1.2.1).1, (rx y4 y1.2.1).2.1, (mMarkFieldS (rx y2 y1.2.1).2.1 (IntKind.i64.wrap (y1.1 + 1))), (rx y4 y1.2.1).2.2.2)) →
                                0 ≤ y1.2.1 ∧
                                y1.2.1 < (y5.length : Int) ∧
                                (∀ y6 : (List Slt),
                                  (y6 = (y5.set y1.2.1.toNat ((rx y5 y1.2.1).1, (rx y5 y1.2.1).2.1, (rx y5 y1.2.1).2.2.1, [], (rx y5 y1.2.1).2.2.2.2)) →
                                    pMarkFieldS (rx y5 y1.2.1).2.2.2.1 (IntKind.i64.wrap ((mMarkFieldS (rx y2 y1.2.1).2.1 (IntKind.i64.wrap (y1.1 + 1))) + 1)) ∧
                                    (∀ y7 : (List Slt),
                                      (y7 = (y6.set y1.2.1.toNat ((rx y6 y1.2.1).1, (rx y6 y1.2.1).2.1, (rx y6 y1.2.1).2.2.1, (wMarkFieldS (rx y5 y1.2.1).2.2.2.1 (IntKind.i64.wrap ((mMarkFieldS (rx y2 y1.2.1).2.1 (IntKind.i64.wrap (y1.1 + 1))) + 1))).1, (rx y6 y1.2.1).2.2.2.2)) →
                                        pMarkText (mMarkFieldS (rx y5 y1.2.1).2.2.2.1 (IntKind.i64.wrap ((mMarkFieldS (rx y2 y1.2.1).2.1 (IntKind.i64.wrap (y1.1 + 1))) + 1))) ∧
                                        0 ≤ y1.2.1 ∧
                                        y1.2.1 < (y7.length : Int) ∧
                                        (∀ y8 : (List Slt),
                                          (y8 = (y7.set y1.2.1.toNat ((rx y7 y1.2.1).1, (rx y7 y1.2.1).2.1, (rx y7 y1.2.1).2.2.1, (rx y7 y1.2.1).2.2.2.1, (mMarkText (mMarkFieldS (rx y5 y1.2.1).2.2.2.1 (IntKind.i64.wrap ((mMarkFieldS (rx y2 y1.2.1).2.1 (IntKind.i64.wrap (y1.1 + 1))) + 1)))), (rx y7 y1.2.1).2.2.2.2.2)) →
                                            0 ≤ y1.2.1 ∧
                                            y1.2.1 < (y8.length : Int) ∧
                                            (∀ y9 : (List Slt),
                                              (y9 = (y8.set y1.2.1.toNat ((rx y8 y1.2.1).1, (rx y8 y1.2.1).2.1, (rx y8 y1.2.1).2.2.1, (rx y8 y1.2.1).2.2.2.1, (rx y8 y1.2.1).2.2.2.2.1, (IntKind.i64.wrap ((mMarkFieldS (rx y5 y1.2.1).2.2.2.1 (IntKind.i64.wrap ((mMarkFieldS (rx y2 y1.2.1).2.1 (IntKind.i64.wrap (y1.1 + 1))) + 1))) + 1)), (rx y8 y1.2.1).2.2.2.2.2.2)) →
                                                0 ≤ y1.2.1 ∧
                                                y1.2.1 < (y9.length : Int) ∧
                                                (∀ y10 : (List Slt),
                                                  (y10 = (y9.set y1.2.1.toNat ((rx y9 y1.2.1).1, (rx y9 y1.2.1).2.1, (rx y9 y1.2.1).2.2.1, (rx y9 y1.2.1).2.2.2.1, (rx y9 y1.2.1).2.2.2.2.1, (rx y9 y1.2.1).2.2.2.2.2.1, (IntKind.i64.wrap ((IntKind.i64.wrap ((mMarkFieldS (rx y5 y1.2.1).2.2.2.1 (IntKind.i64.wrap ((mMarkFieldS (rx y2 y1.2.1).2.1 (IntKind.i64.wrap (y1.1 + 1))) + 1))) + 1)) + 1)), (rx y9 y1.2.1).2.2.2.2.2.2.2)) →
                                                    (3 : Int) ≠ 0 ∧
                                                    0 ≤ y1.2.1 ∧
                                                    y1.2.1 < (y10.length : Int) ∧
                                                    (∀ y11 : (List Slt),
                                                      (y11 = (y10.set y1.2.1.toNat ((rx y10 y1.2.1).1, (rx y10 y1.2.1).2.1, (rx y10 y1.2.1).2.2.1, (rx y10 y1.2.1).2.2.2.1, (rx y10 y1.2.1).2.2.2.2.1, (rx y10 y1.2.1).2.2.2.2.2.1, (rx y10 y1.2.1).2.2.2.2.2.2.1, (decide (((IntKind.i64.wrap ((IntKind.i64.wrap ((IntKind.i64.wrap ((mMarkFieldS (rx y5 y1.2.1).2.2.2.1 (IntKind.i64.wrap ((mMarkFieldS (rx y2 y1.2.1).2.1 (IntKind.i64.wrap (y1.1 + 1))) + 1))) + 1)) + 1)) + 1)).tmod 3) = 0)))) →
                                                        (L0 ((IntKind.i64.wrap ((IntKind.i64.wrap ((IntKind.i64.wrap ((IntKind.i64.wrap ((mMarkFieldS (rx y5 y1.2.1).2.2.2.1 (IntKind.i64.wrap ((mMarkFieldS (rx y2 y1.2.1).2.1 (IntKind.i64.wrap (y1.1 + 1))) + 1))) + 1)) + 1)) + 1)) + 1)), (IntKind.i64.wrap (y1.2.1 + 1)), y11))))))))))))))))))))))) ∧
              (¬ (y1.2.1 < (y1.2.2.length : Int)) →
                (Q y1.1 (y1.2.2, a1)))
            ) →
            (L0 y1)))
      ) →
      (L0 (a1, 0, a0))))

def s_slices_Clone_Field (a0 : (List Fld)) (Q : ((List Fld) → Prop)) : Prop :=
  (∀ y0 : Bool,
    ((
        (y0 = true →
          a0 = [])
      ) →
      (y0 = true →
        (Q [])) ∧
      (¬ (y0 = true) →
        (([] : List Fld).length + a0.length) * 32 ≤ 140737488355328 ∧
        (Q ([] ++ a0)))))

def s_slices_Clone_GenRow (a0 : (List Gen)) (Q : ((List Gen) → Prop)) : Prop :=
  (∀ y0 : Bool,
    ((
        (y0 = true →
          a0 = [])
      ) →
      (y0 = true →
        (Q [])) ∧
      (¬ (y0 = true) →
        (([] : List Fld).length + a0.length) * 24 ≤ 140737488355328 ∧
        (Q ([] ++ a0)))))

def s_spec_CacheHit (a0 : Cch) (a1 : Req) (Q : (Cch → Prop)) : Prop :=
  pL13Copy a0 ∧
  pCacheOk a0 ∧
  (¬ ((mCacheOk a0) = true) →
    (Q (mL13Copy a0))) ∧
  (¬ (¬ ((mCacheOk a0) = true)) →
    pShardOf a0 a1.2.1 ∧
    0 ≤ (mShardOf a0 a1.2.1) ∧
    (mShardOf a0 a1.2.1) < (a0.1.length : Int) ∧
    0 ≤ (mShardOf a0 a1.2.1) ∧
    (mShardOf a0 a1.2.1) < (a0.1.length : Int) ∧
    pShardFind (rx a0.1 (mShardOf a0 a1.2.1)) a1 ∧
    pShardTouch (rx a0.1 (mShardOf a0 a1.2.1)) (mShardFind (rx a0.1 (mShardOf a0 a1.2.1)) a1) ∧
    0 ≤ (mShardOf a0 a1.2.1) ∧
    (mShardOf a0 a1.2.1) < ((mL13Copy a0).1.length : Int) ∧
    (Q (((mL13Copy a0).1.set (mShardOf a0 a1.2.1).toNat (mShardTouch (rx a0.1 (mShardOf a0 a1.2.1)) (mShardFind (rx a0.1 (mShardOf a0 a1.2.1)) a1))), (mL13Copy a0).2)))

def s_spec_ShardTouch (a0 : Shd) (a1 : Int) (Q : (Shd → Prop)) : Prop :=
  pL12Copy a0 ∧
  pShardOk a0 ∧
  ((mShardOk a0) = true →
    pIn a1 0 (IntKind.i64.wrap ((a0.2.2.1.length : Int) - 1)) ∧
    ((mIn a1 0 (IntKind.i64.wrap ((a0.2.2.1.length : Int) - 1))) = true →
      0 ≤ a1 ∧
      a1 < ((mL12Copy a0).2.2.1.length : Int) ∧
      (∀ y0 : (List Slt),
        (y0 = ((mL12Copy a0).2.2.1.set a1.toNat ((rx (mL12Copy a0).2.2.1 a1).1, (rx (mL12Copy a0).2.2.1 a1).2.1, (rx (mL12Copy a0).2.2.1 a1).2.2.1, (rx (mL12Copy a0).2.2.1 a1).2.2.2.1, (rx (mL12Copy a0).2.2.1 a1).2.2.2.2.1, (rx (mL12Copy a0).2.2.1 a1).2.2.2.2.2.1, (rx (mL12Copy a0).2.2.1 a1).2.2.2.2.2.2.1, true)) →
          (Q ((mL12Copy a0).1, (mL12Copy a0).2.1, y0, (mL12Copy a0).2.2.2))))) ∧
    (¬ ((mIn a1 0 (IntKind.i64.wrap ((a0.2.2.1.length : Int) - 1))) = true) →
      (Q (mL12Copy a0)))) ∧
  (¬ ((mShardOk a0) = true) →
    (Q (mL12Copy a0)))

def s_spec_l12Copy (a0 : Shd) (Q : (Shd → Prop)) : Prop :=
  (∀ L0 : (((List Slt) × Int) → Prop),
    ((
        (∀ y1 : ((List Slt) × Int),
          ((
              (y1.2 < (a0.2.2.1.length : Int) →
                0 ≤ y1.2 ∧
                y1.2 < (a0.2.2.1.length : Int) ∧
                pL12One ((rx a0.2.2.1 y1.2).1, (rx a0.2.2.1 y1.2).2.1, (rx a0.2.2.1 y1.2).2.2.1, (rx a0.2.2.1 y1.2).2.2.2.1, (rx a0.2.2.1 y1.2).2.2.2.2.1, (rx a0.2.2.1 y1.2).2.2.2.2.2.1, (rx a0.2.2.1 y1.2).2.2.2.2.2.2.1) ∧
                0 ≤ y1.2 ∧
                y1.2 < (a0.2.2.1.length : Int) ∧
                (y1.1.length + [((mL12One ((rx a0.2.2.1 y1.2).1, (rx a0.2.2.1 y1.2).2.1, (rx a0.2.2.1 y1.2).2.2.1, (rx a0.2.2.1 y1.2).2.2.2.1, (rx a0.2.2.1 y1.2).2.2.2.2.1, (rx a0.2.2.1 y1.2).2.2.2.2.2.1, (rx a0.2.2.1 y1.2).2.2.2.2.2.2.1)).1, (mL12One ((rx a0.2.2.1 y1.2).1, (rx a0.2.2.1 y1.2).2.1, (rx a0.2.2.1 y1.2).2.2.1, (rx a0.2.2.1 y1.2).2.2.2.1, (rx a0.2.2.1 y1.2).2.2.2.2.1, (rx a0.2.2.1 y1.2).2.2.2.2.2.1, (rx a0.2.2.1 y1.2).2.2.2.2.2.2.1)).2.1, (mL12One ((rx a0.2.2.1 y1.2).1, (rx a0.2.2.1 y1.2).2.1, (rx a0.2.2.1 y1.2).2.2.1, (rx a0.2.2.1 y1.2).2.2.2.1, (rx a0.2.2.1 y1.2).2.2.2.2.1, (rx a0.2.2.1 y1.2).2.2.2.2.2.1, (rx a0.2.2.1 y1.2).2.2.2.2.2.2.1)).2.2.1, (mL12One ((rx a0.2.2.1 y1.2).1, (rx a0.2.2.1 y1.2).2.1, (rx a0.2.2.1 y1.2).2.2.1, (rx a0.2.2.1 y1.2).2.2.2.1, (rx a0.2.2.1 y1.2).2.2.2.2.1, (rx a0.2.2.1 y1.2).2.2.2.2.2.1, (rx a0.2.2.1 y1.2).2.2.2.2.2.2.1)).2.2.2.1, (mL12One ((rx a0.2.2.1 y1.2).1, (rx a0.2.2.1 y1.2).2.1, (rx a0.2.2.1 y1.2).2.2.1, (rx a0.2.2.1 y1.2).2.2.2.1, (rx a0.2.2.1 y1.2).2.2.2.2.1, (rx a0.2.2.1 y1.2).2.2.2.2.2.1, (rx a0.2.2.1 y1.2).2.2.2.2.2.2.1)).2.2.2.2.1, (mL12One ((rx a0.2.2.1 y1.2).1, (rx a0.2.2.1 y1.2).2.1, (rx a0.2.2.1 y1.2).2.2.1, (rx a0.2.2.1 y1.2).2.2.2.1, (rx a0.2.2.1 y1.2).2.2.2.2.1, (rx a0.2.2.1 y1.2).2.2.2.2.2.1, (rx a0.2.2.1 y1.2).2.2.2.2.2.2.1)).2.2.2.2.2.1, (mL12One ((rx a0.2.2.1 y1.2).1, (rx a0.2.2.1 y1.2).2.1, (rx a0.2.2.1 y1.2).2.2.1, (rx a0.2.2.1 y1.2).2.2.2.1, (rx a0.2.2.1 y1.2).2.2.2.2.1, (rx a0.2.2.1 y1.2).2.2.2.2.2.1, (rx a0.2.2.1 y1.2).2.2.2.2.2.2.1)).2.2.2.2.2.2, (rx a0.2.2.1 y1.2).2.2.2.2.2.2.2)].length) * 112 ≤ 140737488355328 ∧
                (L0 ((y1.1 ++ [((mL12One ((rx a0.2.2.1 y1.2).1, (rx a0.2.2.1 y1.2).2.1, (rx a0.2.2.1 y1.2).2.2.1, (rx a0.2.2.1 y1.2).2.2.2.1, (rx a0.2.2.1 y1.2).2.2.2.2.1, (rx a0.2.2.1 y1.2).2.2.2.2.2.1, (rx a0.2.2.1 y1.2).2.2.2.2.2.2.1)).1, (mL12One ((rx a0.2.2.1 y1.2).1, (rx a0.2.2.1 y1.2).2.1, (rx a0.2.2.1 y1.2).2.2.1, (rx a0.2.2.1 y1.2).2.2.2.1, (rx a0.2.2.1 y1.2).2.2.2.2.1, (rx a0.2.2.1 y1.2).2.2.2.2.2.1, (rx a0.2.2.1 y1.2).2.2.2.2.2.2.1)).2.1, (mL12One ((rx a0.2.2.1 y1.2).1, (rx a0.2.2.1 y1.2).2.1, (rx a0.2.2.1 y1.2).2.2.1, (rx a0.2.2.1 y1.2).2.2.2.1, (rx a0.2.2.1 y1.2).2.2.2.2.1, (rx a0.2.2.1 y1.2).2.2.2.2.2.1, (rx a0.2.2.1 y1.2).2.2.2.2.2.2.1)).2.2.1, (mL12One ((rx a0.2.2.1 y1.2).1, (rx a0.2.2.1 y1.2).2.1, (rx a0.2.2.1 y1.2).2.2.1, (rx a0.2.2.1 y1.2).2.2.2.1, (rx a0.2.2.1 y1.2).2.2.2.2.1, (rx a0.2.2.1 y1.2).2.2.2.2.2.1, (rx a0.2.2.1 y1.2).2.2.2.2.2.2.1)).2.2.2.1, (mL12One ((rx a0.2.2.1 y1.2).1, (rx a0.2.2.1 y1.2).2.1, (rx a0.2.2.1 y1.2).2.2.1, (rx a0.2.2.1 y1.2).2.2.2.1, (rx a0.2.2.1 y1.2).2.2.2.2.1, (rx a0.2.2.1 y1.2).2.2.2.2.2.1, (rx a0.2.2.1 y1.2).2.2.2.2.2.2.1)).2.2.2.2.1, (mL12One ((rx a0.2.2.1 y1.2).1, (rx a0.2.2.1 y1.2).2.1, (rx a0.2.2.1 y1.2).2.2.1, (rx a0.2.2.1 y1.2).2.2.2.1, (rx a0.2.2.1 y1.2).2.2.2.2.1, (rx a0.2.2.1 y1.2).2.2.2.2.2.1, (rx a0.2.2.1 y1.2).2.2.2.2.2.2.1)).2.2.2.2.2.1, (mL12One ((rx a0.2.2.1 y1.2).1, (rx a0.2.2.1 y1.2).2.1, (rx a0.2.2.1 y1.2).2.2.1, (rx a0.2.2.1 y1.2).2.2.2.1, (rx a0.2.2.1 y1.2).2.2.2.2.1, (rx a0.2.2.1 y1.2).2.2.2.2.2.1, (rx a0.2.2.1 y1.2).2.2.2.2.2.2.1)).2.2.2.2.2.2, (rx a0.2.2.1 y1.2).2.2.2.2.2.2.2)]), (IntKind.i64.wrap (y1.2 + 1))))) ∧
              (¬ (y1.2 < (a0.2.2.1.length : Int)) →
                (Q (a0.1, a0.2.1, y1.1, a0.2.2.2)))
            ) →
            (L0 y1)))
      ) →
      (L0 ([], 0))))

def s_spec_l12One (a0 : Sto) (Q : (Sto → Prop)) : Prop :=
  (([] : List Fld).length + a0.2.1.length) * 32 ≤ 140737488355328 ∧
  pL12Resp (a0.2.2.1, a0.2.2.2.1, a0.2.2.2.2.1) ∧
  (Q (a0.1, ([] ++ a0.2.1), (mL12Resp (a0.2.2.1, a0.2.2.2.1, a0.2.2.2.2.1)).1, (mL12Resp (a0.2.2.1, a0.2.2.2.1, a0.2.2.2.2.1)).2.1, (mL12Resp (a0.2.2.1, a0.2.2.2.1, a0.2.2.2.2.1)).2.2, a0.2.2.2.2.2))

def s_spec_l12Resp (a0 : Rsp) (Q : (Rsp → Prop)) : Prop :=
  (([] : List Fld).length + a0.2.1.length) * 32 ≤ 140737488355328 ∧
  (Q (a0.1, ([] ++ a0.2.1), a0.2.2))

def s_spec_l13Copy (a0 : Cch) (Q : (Cch → Prop)) : Prop :=
  (([] : List Fld).length + a0.2.length) * 24 ≤ 140737488355328 ∧
  (∀ L0 : ((Int × Cch) → Prop),
    ((
        (∀ y1 : (Int × Cch),
          ((
              (y1.1 < (a0.1.length : Int) →
                0 ≤ y1.1 ∧
                y1.1 < (a0.1.length : Int) ∧
                pL12Copy (rx a0.1 y1.1) ∧
                (y1.2.1.length + [(mL12Copy (rx a0.1 y1.1))].length) * 48 ≤ 140737488355328 ∧
                (L0 ((IntKind.i64.wrap (y1.1 + 1)), (y1.2.1 ++ [(mL12Copy (rx a0.1 y1.1))]), y1.2.2))) ∧
              (¬ (y1.1 < (a0.1.length : Int)) →
                (Q y1.2))
            ) →
            (L0 y1)))
      ) →
      (L0 (0, [], ([] ++ a0.2)))))

def s_laws_FnExactCacheHit (a0 : Cch) (a1 : Req) (Q : (Bool → Prop)) : Prop :=
  pSz a0 1048576 ∧
  ((szF a0 1048576) < 0 →
    (Q true)) ∧
  (¬ ((szF a0 1048576) < 0) →
    pSz a1 (szF a0 1048576) ∧
    ((szF a1 (szF a0 1048576)) < 0 →
      (Q true)) ∧
    (¬ ((szF a1 (szF a0 1048576)) < 0) →
      pTo a0 ∧
      pTo a1 ∧
      pCacheHit (toF a0) (toF a1) ∧
      pTo a0 ∧
      pTo a1 ∧
      pCacheHit (toF a0) (toF a1) ∧
      pEq (mCacheHit (toF a0) (toF a1)) (mCacheHit (toF a0) (toF a1)) ∧
      (¬ ((eqF (mCacheHit (toF a0) (toF a1)) (mCacheHit (toF a0) (toF a1))) = true) →
        (Q false)) ∧
      (¬ (¬ ((eqF (mCacheHit (toF a0) (toF a1)) (mCacheHit (toF a0) (toF a1))) = true)) →
        pTo a0 ∧
        pEq (toF a0) (toF a0) ∧
        (¬ ((eqF (toF a0) (toF a0)) = true) →
          (Q false)) ∧
        (¬ (¬ ((eqF (toF a0) (toF a0)) = true)) →
          pTo a1 ∧
          pEq (toF a1) (toF a1) ∧
          (¬ ((eqF (toF a1) (toF a1)) = true) →
            (Q false)) ∧
          (¬ (¬ ((eqF (toF a1) (toF a1)) = true)) →
            pMarkCache (toF a0) 1 ∧
            pMarkRequest (toF a1) (mMarkCache (toF a0) 1) ∧
            ((mMarkRequest (toF a1) (mMarkCache (toF a0) 1)) < 0 →
              (Q false)) ∧
            (¬ ((mMarkRequest (toF a1) (mMarkCache (toF a0) 1)) < 0) →
              pEq (mCacheHit (toF a0) (toF a1)) (mCacheHit (toF a0) (toF a1)) ∧
              (¬ ((eqF (mCacheHit (toF a0) (toF a1)) (mCacheHit (toF a0) (toF a1))) = true) →
                (Q false)) ∧
              (¬ (¬ ((eqF (mCacheHit (toF a0) (toF a1)) (mCacheHit (toF a0) (toF a1))) = true)) →
                pMarkCache (mCacheHit (toF a0) (toF a1)) 1 ∧
                pHeldCache (wMarkCache (mCacheHit (toF a0) (toF a1)) 1).1 1 ∧
                ((mHeldCache (wMarkCache (mCacheHit (toF a0) (toF a1)) 1).1 1) < 0 →
                  (Q false)) ∧
                (¬ ((mHeldCache (wMarkCache (mCacheHit (toF a0) (toF a1)) 1).1 1) < 0) →
                  ((mHeldCache (wMarkCache (mCacheHit (toF a0) (toF a1)) 1).1 1) ≠ (mMarkCache (mCacheHit (toF a0) (toF a1)) 1) →
                    (Q false)) ∧
                  (¬ ((mHeldCache (wMarkCache (mCacheHit (toF a0) (toF a1)) 1).1 1) ≠ (mMarkCache (mCacheHit (toF a0) (toF a1)) 1)) →
                    pTo a0 ∧
                    pTo a1 ∧
                    pCacheHit (toF a0) (toF a1) ∧
                    pEq (mCacheHit (toF a0) (toF a1)) (mCacheHit (toF a0) (toF a1)) ∧
                    (¬ ((eqF (mCacheHit (toF a0) (toF a1)) (mCacheHit (toF a0) (toF a1))) = true) →
                      (Q false)) ∧
                    (¬ (¬ ((eqF (mCacheHit (toF a0) (toF a1)) (mCacheHit (toF a0) (toF a1))) = true)) →
                      pHeldCache (wMarkCache (mCacheHit (toF a0) (toF a1)) 1).1 1 ∧
                      ((mHeldCache (wMarkCache (mCacheHit (toF a0) (toF a1)) 1).1 1) < 0 →
                        (Q false)) ∧
                      (¬ ((mHeldCache (wMarkCache (mCacheHit (toF a0) (toF a1)) 1).1 1) < 0) →
                        ((mHeldCache (wMarkCache (mCacheHit (toF a0) (toF a1)) 1).1 1) ≠ (mMarkCache (mCacheHit (toF a0) (toF a1)) 1) →
                          (Q false)) ∧
                        (¬ ((mHeldCache (wMarkCache (mCacheHit (toF a0) (toF a1)) 1).1 1) ≠ (mMarkCache (mCacheHit (toF a0) (toF a1)) 1)) →
                          (Q true)))))))))))))

end Go.Ev
end

section
/- What the program's functions come to, each by itself: printed by a program of this session's own (EwShow) out of the small machine. -/
set_option linter.unusedVariables false
namespace Go.Ev

end Go.Ev
end

section
/- What the laws' marks come to, and the law of Picked: printed by a program of this session's own (EwShow) out of the small machine. -/
set_option linter.unusedVariables false
namespace Go.Ev

def s_laws_heldFieldS (a0 : (List Fld)) (a1 : Int) (Q : (Int → Prop)) : Prop :=
  (∀ L0 : ((Int × Int) → Prop),
    ((
        (∀ y1 : (Int × Int),
          ((
              (y1.2 < (a0.length : Int) →
                0 ≤ y1.2 ∧
                y1.2 < (a0.length : Int) ∧
                pMarkText y1.1 ∧
                ((rx a0 y1.2).1 ≠ (mMarkText y1.1) →
                  (Q (-1))) ∧
                (¬ ((rx a0 y1.2).1 ≠ (mMarkText y1.1)) →
                  0 ≤ y1.2 ∧
                  y1.2 < (a0.length : Int) ∧
                  pMarkText (IntKind.i64.wrap (y1.1 + 1)) ∧
                  ((rx a0 y1.2).2 ≠ (mMarkText (IntKind.i64.wrap (y1.1 + 1))) →
                    (Q (-1))) ∧
                  (¬ ((rx a0 y1.2).2 ≠ (mMarkText (IntKind.i64.wrap (y1.1 + 1)))) →
                    (L0 ((IntKind.i64.wrap ((IntKind.i64.wrap (y1.1 + 1)) + 1)), (IntKind.i64.wrap (y1.2 + 1))))))) ∧
              (¬ (y1.2 < (a0.length : Int)) →
                (Q y1.1))
            ) →
            (L0 y1)))
      ) →
      (L0 (a1, 0))))

def s_laws_markFieldS (a0 : (List Fld)) (a1 : Int) (Q : (Int → (((List Fld) × Int) → Prop))) : Prop :=
  (∀ L0 : ((Int × (Int × (List Fld))) → Prop),
    ((
        (∀ y1 : (Int × (Int × (List Fld))),
          ((
              (y1.2.1 < (y1.2.2.length : Int) →
                pMarkText y1.1 ∧
                0 ≤ y1.2.1 ∧
                y1.2.1 < (y1.2.2.length : Int) ∧
                pMarkText (IntKind.i64.wrap (y1.1 + 1)) ∧
                0 ≤ y1.2.1 ∧
                y1.2.1 < ((y1.2.2.set y1.2.1.toNat ((mMarkText y1.1), (rx y1.2.2 y1.2.1).2)).length : Int) ∧
                (L0 ((IntKind.i64.wrap ((IntKind.i64.wrap (y1.1 + 1)) + 1)), (IntKind.i64.wrap (y1.2.1 + 1)), ((y1.2.2.set y1.2.1.toNat ((mMarkText y1.1), (rx y1.2.2 y1.2.1).2)).set y1.2.1.toNat ((rx (y1.2.2.set y1.2.1.toNat ((mMarkText y1.1), (rx y1.2.2 y1.2.1).2)) y1.2.1).1, (mMarkText (IntKind.i64.wrap (y1.1 + 1)))))))) ∧
              (¬ (y1.2.1 < (y1.2.2.length : Int)) →
                (Q y1.1 (y1.2.2, a1)))
            ) →
            (L0 y1)))
      ) →
      (L0 (a1, 0, a0))))

def s_laws_markRequest (a0 : Req) (a1 : Int) (Q : (Int → ((Req × Int) → Prop))) : Prop :=
  pMarkFieldS a0.2.2.1 a1 ∧
  (Q (mMarkFieldS a0.2.2.1 a1) ((a0.1, a0.2.1, (wMarkFieldS a0.2.2.1 a1).1, a0.2.2.2), a1))

def s_laws_markText (a0 : Int) (Q : (S → Prop)) : Prop :=
  (a0 ≤ 0 →
    (Q (lit [109, 48]))) ∧
  (¬ (a0 ≤ 0) →
    (∀ L0 : ((Int × S) → Prop),
      ((
          (∀ y1 : (Int × S),
            ((
                (0 < y1.1 →
                  (10 : Int) ≠ 0 ∧
                  (strOf [(IntKind.u8.wrap (IntKind.i64.wrap (48 + (y1.1.tmod 10))))]).size + y1.2.size ≤ 9223372036854775807 ∧
                  (10 : Int) ≠ 0 ∧
                  (L0 ((IntKind.i64.wrap (y1.1.tdiv 10)), ((strOf [(IntKind.u8.wrap (IntKind.i64.wrap (48 + (y1.1.tmod 10))))]) ++ y1.2)))) ∧
                (¬ (0 < y1.1) →
                  (lit [109]).size + y1.2.size ≤ 9223372036854775807 ∧
                  (Q ((lit [109]) ++ y1.2)))
              ) →
              (L0 y1)))
        ) →
        (L0 (a0, (lit []))))))

end Go.Ev
end

section
/- What more of the laws' functions come to: printed by a program of this session's own (EwShow) out of the small machine. -/
set_option linter.unusedVariables false
namespace Go.Ev

end Go.Ev
end

section
/- What the laws' functions come to: printed by a program of this session's own (EwShow) out of the small machine. -/
set_option linter.unusedVariables false
namespace Go.Ev

end Go.Ev
end

section
/- What the program's functions come to, each by itself: printed by a program of this session's own (EwShow) out of the small machine. -/
set_option linter.unusedVariables false
namespace Go.Ev

def s_ContainsFunc_FieldsOk_1 (a0 : (List Fld)) (a1 : Unit) (Q : (Bool → Prop)) : Prop :=
  pIndexFunc_FieldsOk_1 a0 () ∧
  (Q (decide (0 ≤ (mIndexFunc_FieldsOk_1 a0 ()))))

def s_ContainsFunc_ShardOk_1 (a0 : (List Slt)) (a1 : Slt) (Q : (Bool → Prop)) : Prop :=
  pIndexFunc_ShardOk_1 a0 a1 ∧
  (Q (decide (0 ≤ (mIndexFunc_ShardOk_1 a0 a1))))

def s_IndexFunc_FieldsOk_1 (a0 : (List Fld)) (a1 : Unit) (Q : (Int → Prop)) : Prop :=
  (∀ L0 : (Int → Prop),
    ((
        (∀ y1 : Int,
          ((
              (y1 < (a0.length : Int) →
                0 ≤ y1 ∧
                y1 < (a0.length : Int) ∧
                pFieldsOk_1 (rx a0 y1) ∧
                ((mFieldsOk_1 (rx a0 y1)) = true →
                  (Q y1)) ∧
                (¬ ((mFieldsOk_1 (rx a0 y1)) = true) →
                  (L0 (IntKind.i64.wrap (y1 + 1))))) ∧
              (¬ (y1 < (a0.length : Int)) →
                (Q (-1)))
            ) →
            (L0 y1)))
      ) →
      (L0 0)))

def s_IndexFunc_ShardOk_1 (a0 : (List Slt)) (a1 : Slt) (Q : (Int → Prop)) : Prop :=
  (∀ L0 : (Int → Prop),
    ((
        (∀ y1 : Int,
          ((
              (y1 < (a0.length : Int) →
                0 ≤ y1 ∧
                y1 < (a0.length : Int) ∧
                pShardOk_1 (rx a0 y1) a1 ∧
                ((mShardOk_1 (rx a0 y1) a1) = true →
                  (Q y1)) ∧
                (¬ ((mShardOk_1 (rx a0 y1) a1) = true) →
                  (L0 (IntKind.i64.wrap (y1 + 1))))) ∧
              (¬ (y1 < (a0.length : Int)) →
                (Q (-1)))
            ) →
            (L0 y1)))
      ) →
      (L0 0)))

def s_impl_FieldGet (a0 : (List Fld)) (a1 : S) (Q : ((S × Bool) → Prop)) : Prop :=
  (∀ L0 : (((List S) × Int) → Prop),
    ((
        (∀ y1 : ((List S) × Int),
          ((
              (y1.2 < (a0.length : Int) →
                0 ≤ y1.2 ∧
                y1.2 < (a0.length : Int) ∧
                ((rx a0 y1.2).1 = a1 →
                  (y1.1.length + [(rx a0 y1.2).2].length) * 16 ≤ 140737488355328 ∧
                  (L0 ((y1.1 ++ [(rx a0 y1.2).2]), (IntKind.i64.wrap (y1.2 + 1))))) ∧
                (¬ ((rx a0 y1.2).1 = a1) →
                  (L0 (y1.1, (IntKind.i64.wrap (y1.2 + 1)))))) ∧
              (¬ (y1.2 < (a0.length : Int)) →
                pJoin y1.1 (lit [44, 32]) ∧
                (Q ((mJoin y1.1 (lit [44, 32])), (decide (0 < (y1.1.length : Int))))))
            ) →
            (L0 y1)))
      ) →
      (L0 ([], 0))))

def s_impl_FieldsOk (a0 : (List Fld)) (Q : (Bool → Prop)) : Prop :=
  ((a0.length : Int) ≤ 12 →
    pContainsFunc_FieldsOk_1 a0 () ∧
    (Q (decide (¬ ((mContainsFunc_FieldsOk_1 a0 ()) = true))))) ∧
  (¬ ((a0.length : Int) ≤ 12) →
    (Q false))

def s_impl_FieldsOk_1 (a0 : Fld) (Q : (Bool → Prop)) : Prop :=
  pFieldOk a0 ∧
  (Q (decide (¬ ((mFieldOk a0) = true))))

def s_impl_IsTokenText (a0 : S) (Q : (Bool → Prop)) : Prop :=
  (∀ L0 : (Int → Prop),
    ((
        (∀ y1 : Int,
          ((
              (y1 < (a0.size : Int) →
                0 ≤ y1 ∧
                y1 < (a0.size : Int) ∧
                pIsLetterOrDigit (bt a0 y1) ∧
                (¬ ((mIsLetterOrDigit (bt a0 y1)) = true) →
                  0 ≤ y1 ∧
                  y1 < (a0.size : Int) ∧
                  pIndexByte (lit [33, 35, 36, 37, 38, 39, 42, 43, 45, 46, 94, 95, 124, 126, 96]) (bt a0 y1) ∧
                  ((mIndexByte (lit [33, 35, 36, 37, 38, 39, 42, 43, 45, 46, 94, 95, 124, 126, 96]) (bt a0 y1)) < 0 →
                    (Q false)) ∧
                  (¬ ((mIndexByte (lit [33, 35, 36, 37, 38, 39, 42, 43, 45, 46, 94, 95, 124, 126, 96]) (bt a0 y1)) < 0) →
                    (L0 (IntKind.i64.wrap (y1 + 1))))) ∧
                (¬ (¬ ((mIsLetterOrDigit (bt a0 y1)) = true)) →
                  (L0 (IntKind.i64.wrap (y1 + 1))))) ∧
              (¬ (y1 < (a0.size : Int)) →
                (Q (decide (a0 ≠ (lit [])))))
            ) →
            (L0 y1)))
      ) →
      (L0 0)))

def s_impl_IsValueText (a0 : S) (Q : (Bool → Prop)) : Prop :=
  (∀ L0 : (Int → Prop),
    ((
        (∀ y1 : Int,
          ((
              (y1 < (a0.size : Int) →
                0 ≤ y1 ∧
                y1 < (a0.size : Int) ∧
                ((bt a0 y1) < 32 →
                  0 ≤ y1 ∧
                  y1 < (a0.size : Int) ∧
                  ((bt a0 y1) ≠ 9 →
                    (Q false)) ∧
                  (¬ ((bt a0 y1) ≠ 9) →
                    0 ≤ y1 ∧
                    y1 < (a0.size : Int) ∧
                    ((bt a0 y1) = 127 →
                      (Q false)) ∧
                    (¬ ((bt a0 y1) = 127) →
                      (L0 (IntKind.i64.wrap (y1 + 1)))))) ∧
                (¬ ((bt a0 y1) < 32) →
                  0 ≤ y1 ∧
                  y1 < (a0.size : Int) ∧
                  ((bt a0 y1) = 127 →
                    (Q false)) ∧
                  (¬ ((bt a0 y1) = 127) →
                    (L0 (IntKind.i64.wrap (y1 + 1)))))) ∧
              (¬ (y1 < (a0.size : Int)) →
                pTrim a0 ∧
                (Q (decide ((mTrim a0) = a0))))
            ) →
            (L0 y1)))
      ) →
      (L0 0)))

def s_impl_Normal (a0 : S) (Q : (S → Prop)) : Prop :=
  pSplitList a0 ∧
  pJoin (mSplitList a0) (lit [44, 32]) ∧
  (Q (mJoin (mSplitList a0) (lit [44, 32])))

def s_impl_Picked (a0 : Req) (a1 : Rsp) (Q : ((List Fld) → Prop)) : Prop :=
  pVaryNames a1 ∧
  (∀ L0 : (((List Fld) × Int) → Prop),
    ((
        (∀ y1 : ((List Fld) × Int),
          ((
              (y1.2 < ((mVaryNames a1).length : Int) →
                0 ≤ y1.2 ∧
                y1.2 < ((mVaryNames a1).length : Int) ∧
                pFieldGet a0.2.2.1 (rx (mVaryNames a1) y1.2) ∧
                ((mFieldGet a0.2.2.1 (rx (mVaryNames a1) y1.2)).2 = true →
                  pNormal (mFieldGet a0.2.2.1 (rx (mVaryNames a1) y1.2)).1 ∧
                  (y1.1.length + [((rx (mVaryNames a1) y1.2), (mNormal (mFieldGet a0.2.2.1 (rx (mVaryNames a1) y1.2)).1))].length) * 32 ≤ 140737488355328 ∧
                  (L0 ((y1.1 ++ [((rx (mVaryNames a1) y1.2), (mNormal (mFieldGet a0.2.2.1 (rx (mVaryNames a1) y1.2)).1))]), (IntKind.i64.wrap (y1.2 + 1))))) ∧
                (¬ ((mFieldGet a0.2.2.1 (rx (mVaryNames a1) y1.2)).2 = true) →
                  (L0 (y1.1, (IntKind.i64.wrap (y1.2 + 1)))))) ∧
              (¬ (y1.2 < ((mVaryNames a1).length : Int)) →
                (Q y1.1))
            ) →
            (L0 y1)))
      ) →
      (L0 ([], 0))))

def s_impl_ResponseOk (a0 : Rsp) (Q : (Bool → Prop)) : Prop :=
  pIn a0.1 200 599 ∧
  ((mIn a0.1 200 599) = true →
    pOwnFields a0.2.1 ∧
    ((mOwnFields a0.2.1) = true →
      ((a0.2.2.size : Int) ≤ 60 →
        (a0.2.2 = (lit []) →
          (Q true)) ∧
        (¬ (a0.2.2 = (lit [])) →
          pBodiless a0.1 ∧
          (Q (decide (¬ ((mBodiless a0.1) = true)))))) ∧
      (¬ ((a0.2.2.size : Int) ≤ 60) →
        (Q false))) ∧
    (¬ ((mOwnFields a0.2.1) = true) →
      (Q false))) ∧
  (¬ ((mIn a0.1 200 599) = true) →
    (Q false))

def s_impl_SameFields (a0 : (List Fld)) (a1 : (List Fld)) (Q : (Bool → Prop)) : Prop :=
  pEqual_Field a0 a1 ∧
  (Q (mEqual_Field a0 a1))

def s_impl_ShardOk (a0 : Shd) (Q : (Bool → Prop)) : Prop :=
  pShardSizes a0.1 a0.2.1 ∧
  (¬ ((mShardSizes a0.1 a0.2.1) = true) →
    (Q false)) ∧
  (¬ (¬ ((mShardSizes a0.1 a0.2.1) = true)) →
    (a0.1 < (a0.2.2.1.length : Int) →
      (Q false)) ∧
    (¬ (a0.1 < (a0.2.2.1.length : Int)) →
      (a0.2.2.2 ≠ 0 →
        pIn a0.2.2.2 0 (IntKind.i64.wrap ((a0.2.2.1.length : Int) - 1)) ∧
        (¬ ((mIn a0.2.2.2 0 (IntKind.i64.wrap ((a0.2.2.1.length : Int) - 1))) = true) →
          (Q false)) ∧
        (¬ (¬ ((mIn a0.2.2.2 0 (IntKind.i64.wrap ((a0.2.2.1.length : Int) - 1))) = true)) →
          (∀ L0 : (Int → Prop),
            ((
                (∀ y1 : Int,
                  ((
                      (y1 < (a0.2.2.1.length : Int) →
                        0 ≤ y1 ∧
                        y1 < (a0.2.2.1.length : Int) ∧
                        pStoredOk ((rx a0.2.2.1 y1).1, (rx a0.2.2.1 y1).2.1, (rx a0.2.2.1 y1).2.2.1, (rx a0.2.2.1 y1).2.2.2.1, (rx a0.2.2.1 y1).2.2.2.2.1, (rx a0.2.2.1 y1).2.2.2.2.2.1, (rx a0.2.2.1 y1).2.2.2.2.2.2.1) ∧
                        (¬ ((mStoredOk ((rx a0.2.2.1 y1).1, (rx a0.2.2.1 y1).2.1, (rx a0.2.2.1 y1).2.2.1, (rx a0.2.2.1 y1).2.2.2.1, (rx a0.2.2.1 y1).2.2.2.2.1, (rx a0.2.2.1 y1).2.2.2.2.2.1, (rx a0.2.2.1 y1).2.2.2.2.2.2.1)) = true) →
                          (Q false)) ∧
                        (¬ (¬ ((mStoredOk ((rx a0.2.2.1 y1).1, (rx a0.2.2.1 y1).2.1, (rx a0.2.2.1 y1).2.2.1, (rx a0.2.2.1 y1).2.2.2.1, (rx a0.2.2.1 y1).2.2.2.2.1, (rx a0.2.2.1 y1).2.2.2.2.2.1, (rx a0.2.2.1 y1).2.2.2.2.2.2.1)) = true)) →
                          0 ≤ y1 ∧
                          y1 ≤ (a0.2.2.1.length : Int) ∧
                          pContainsFunc_ShardOk_1 (a0.2.2.1.take y1.toNat) (rx a0.2.2.1 y1) ∧
                          ((mContainsFunc_ShardOk_1 (a0.2.2.1.take y1.toNat) (rx a0.2.2.1 y1)) = true →
                            (Q false)) ∧
                          (¬ ((mContainsFunc_ShardOk_1 (a0.2.2.1.take y1.toNat) (rx a0.2.2.1 y1)) = true) →
                            (L0 (IntKind.i64.wrap (y1 + 1)))))) ∧
                      (¬ (y1 < (a0.2.2.1.length : Int)) →
                        pBodies a0.2.2.1 ∧
                        (Q (decide ((mBodies a0.2.2.1) ≤ a0.2.1))))
                    ) →
                    (L0 y1)))
              ) →
              (L0 0))))) ∧
      (¬ (a0.2.2.2 ≠ 0) →
        (∀ L2 : (Int → Prop),
          ((
              (∀ y3 : Int,
                ((
                    (y3 < (a0.2.2.1.length : Int) →
                      0 ≤ y3 ∧
                      y3 < (a0.2.2.1.length : Int) ∧
                      pStoredOk ((rx a0.2.2.1 y3).1, (rx a0.2.2.1 y3).2.1, (rx a0.2.2.1 y3).2.2.1, (rx a0.2.2.1 y3).2.2.2.1, (rx a0.2.2.1 y3).2.2.2.2.1, (rx a0.2.2.1 y3).2.2.2.2.2.1, (rx a0.2.2.1 y3).2.2.2.2.2.2.1) ∧
                      (¬ ((mStoredOk ((rx a0.2.2.1 y3).1, (rx a0.2.2.1 y3).2.1, (rx a0.2.2.1 y3).2.2.1, (rx a0.2.2.1 y3).2.2.2.1, (rx a0.2.2.1 y3).2.2.2.2.1, (rx a0.2.2.1 y3).2.2.2.2.2.1, (rx a0.2.2.1 y3).2.2.2.2.2.2.1)) = true) →
                        (Q false)) ∧
                      (¬ (¬ ((mStoredOk ((rx a0.2.2.1 y3).1, (rx a0.2.2.1 y3).2.1, (rx a0.2.2.1 y3).2.2.1, (rx a0.2.2.1 y3).2.2.2.1, (rx a0.2.2.1 y3).2.2.2.2.1, (rx a0.2.2.1 y3).2.2.2.2.2.1, (rx a0.2.2.1 y3).2.2.2.2.2.2.1)) = true)) →
                        0 ≤ y3 ∧
                        y3 ≤ (a0.2.2.1.length : Int) ∧
                        pContainsFunc_ShardOk_1 (a0.2.2.1.take y3.toNat) (rx a0.2.2.1 y3) ∧
                        ((mContainsFunc_ShardOk_1 (a0.2.2.1.take y3.toNat) (rx a0.2.2.1 y3)) = true →
                          (Q false)) ∧
                        (¬ ((mContainsFunc_ShardOk_1 (a0.2.2.1.take y3.toNat) (rx a0.2.2.1 y3)) = true) →
                          (L2 (IntKind.i64.wrap (y3 + 1)))))) ∧
                    (¬ (y3 < (a0.2.2.1.length : Int)) →
                      pBodies a0.2.2.1 ∧
                      (Q (decide ((mBodies a0.2.2.1) ≤ a0.2.1))))
                  ) →
                  (L2 y3)))
            ) →
            (L2 0))))))

def s_impl_ShardOk_1 (a0 : Slt) (a1 : Slt) (Q : (Bool → Prop)) : Prop :=
  pStandAlike (a1.1, a1.2.1, a1.2.2.1, a1.2.2.2.1, a1.2.2.2.2.1, a1.2.2.2.2.2.1, a1.2.2.2.2.2.2.1) (a0.1, a0.2.1, a0.2.2.1, a0.2.2.2.1, a0.2.2.2.2.1, a0.2.2.2.2.2.1, a0.2.2.2.2.2.2.1) ∧
  (Q (mStandAlike (a1.1, a1.2.1, a1.2.2.1, a1.2.2.2.1, a1.2.2.2.2.1, a1.2.2.2.2.2.1, a1.2.2.2.2.2.2.1) (a0.1, a0.2.1, a0.2.2.1, a0.2.2.2.1, a0.2.2.2.2.1, a0.2.2.2.2.2.1, a0.2.2.2.2.2.2.1)))

def s_impl_SplitList (a0 : S) (Q : ((List S) → Prop)) : Prop :=
  pCommas a0 ∧
  ((mCommas a0).length + [(a0.size : Int)].length) * 8 ≤ 140737488355328 ∧
  (∀ L0 : (((List S) × (Int × Int)) → Prop),
    ((
        (∀ y1 : ((List S) × (Int × Int)),
          ((
              (y1.2.2 < (((mCommas a0) ++ [(a0.size : Int)]).length : Int) →
                0 ≤ y1.2.2 ∧
                y1.2.2 < (((mCommas a0) ++ [(a0.size : Int)]).length : Int) ∧
                0 ≤ y1.2.1 ∧
                y1.2.1 ≤ (rx ((mCommas a0) ++ [(a0.size : Int)]) y1.2.2) ∧
                (rx ((mCommas a0) ++ [(a0.size : Int)]) y1.2.2) ≤ (a0.size : Int) ∧
                pTrim (a0.extract y1.2.1.toNat (rx ((mCommas a0) ++ [(a0.size : Int)]) y1.2.2).toNat) ∧
                ((mTrim (a0.extract y1.2.1.toNat (rx ((mCommas a0) ++ [(a0.size : Int)]) y1.2.2).toNat)) ≠ (lit []) →
                  (y1.1.length + [(mTrim (a0.extract y1.2.1.toNat (rx ((mCommas a0) ++ [(a0.size : Int)]) y1.2.2).toNat))].length) * 16 ≤ 140737488355328 ∧
                  (L0 ((y1.1 ++ [(mTrim (a0.extract y1.2.1.toNat (rx ((mCommas a0) ++ [(a0.size : Int)]) y1.2.2).toNat))]), (IntKind.i64.wrap ((rx ((mCommas a0) ++ [(a0.size : Int)]) y1.2.2) + 1)), (IntKind.i64.wrap (y1.2.2 + 1))))) ∧
                (¬ ((mTrim (a0.extract y1.2.1.toNat (rx ((mCommas a0) ++ [(a0.size : Int)]) y1.2.2).toNat)) ≠ (lit [])) →
                  (L0 (y1.1, (IntKind.i64.wrap ((rx ((mCommas a0) ++ [(a0.size : Int)]) y1.2.2) + 1)), (IntKind.i64.wrap (y1.2.2 + 1)))))) ∧
              (¬ (y1.2.2 < (((mCommas a0) ++ [(a0.size : Int)]).length : Int)) →
                (Q y1.1))
            ) →
            (L0 y1)))
      ) →
      (L0 ([], 0, 0))))

def s_impl_StoredOk (a0 : Sto) (Q : (Bool → Prop)) : Prop :=
  pUriOk a0.1 ∧
  ((mUriOk a0.1) = true →
    pResponseOk (a0.2.2.1, a0.2.2.2.1, a0.2.2.2.2.1) ∧
    ((mResponseOk (a0.2.2.1, a0.2.2.2.1, a0.2.2.2.2.1)) = true →
      pIn a0.2.2.2.2.2.1 0 2000000000 ∧
      ((mIn a0.2.2.2.2.2.1 0 2000000000) = true →
        pIn a0.2.2.2.2.2.2 a0.2.2.2.2.2.1 2000000000 ∧
        ((mIn a0.2.2.2.2.2.2 a0.2.2.2.2.2.1 2000000000) = true →
          (Q (decide ((a0.2.1.length : Int) ≤ 12)))) ∧
        (¬ ((mIn a0.2.2.2.2.2.2 a0.2.2.2.2.2.1 2000000000) = true) →
          (Q false))) ∧
      (¬ ((mIn a0.2.2.2.2.2.1 0 2000000000) = true) →
        (Q false))) ∧
    (¬ ((mResponseOk (a0.2.2.1, a0.2.2.2.1, a0.2.2.2.2.1)) = true) →
      (Q false))) ∧
  (¬ ((mUriOk a0.1) = true) →
    (Q false))

def s_impl_Trim (a0 : S) (Q : (S → Prop)) : Prop :=
  pTrimL a0 (lit [32, 9]) ∧
  (Q (mTrimL a0 (lit [32, 9])))

def s_impl_UriOk (a0 : S) (Q : (Bool → Prop)) : Prop :=
  (∀ L0 : (Int → Prop),
    ((
        (∀ y1 : Int,
          ((
              (y1 < (a0.size : Int) →
                0 ≤ y1 ∧
                y1 < (a0.size : Int) ∧
                ((bt a0 y1) < 33 →
                  (Q false)) ∧
                (¬ ((bt a0 y1) < 33) →
                  0 ≤ y1 ∧
                  y1 < (a0.size : Int) ∧
                  (126 < (bt a0 y1) →
                    (Q false)) ∧
                  (¬ (126 < (bt a0 y1)) →
                    (L0 (IntKind.i64.wrap (y1 + 1)))))) ∧
              (¬ (y1 < (a0.size : Int)) →
                pIn (a0.size : Int) 1 20 ∧
                ((mIn (a0.size : Int) 1 20) = true →
                  (0 : Int) ≤ 0 ∧
                  0 < (a0.size : Int) ∧
                  (Q (decide ((bt a0 0) = 47)))) ∧
                (¬ ((mIn (a0.size : Int) 1 20) = true) →
                  (Q false)))
            ) →
            (L0 y1)))
      ) →
      (L0 0)))

def s_impl_VaryFits (a0 : Req) (a1 : Rsp) (a2 : (List Fld)) (Q : (Bool → Prop)) : Prop :=
  pPicked a0 a1 ∧
  pSameFields (mPicked a0 a1) a2 ∧
  (Q (mSameFields (mPicked a0 a1) a2))

def s_impl_VaryNames (a0 : Rsp) (Q : ((List S) → Prop)) : Prop :=
  pFieldGet a0.2.1 (lit [118, 97, 114, 121]) ∧
  pSplitList (mFieldGet a0.2.1 (lit [118, 97, 114, 121])).1 ∧
  (∀ L0 : (((List S) × Int) → Prop),
    ((
        (∀ y1 : ((List S) × Int),
          ((
              (y1.2 < ((mSplitList (mFieldGet a0.2.1 (lit [118, 97, 114, 121])).1).length : Int) →
                0 ≤ y1.2 ∧
                y1.2 < ((mSplitList (mFieldGet a0.2.1 (lit [118, 97, 114, 121])).1).length : Int) ∧
                pLower (rx (mSplitList (mFieldGet a0.2.1 (lit [118, 97, 114, 121])).1) y1.2) ∧
                pContains_string y1.1 (mLower (rx (mSplitList (mFieldGet a0.2.1 (lit [118, 97, 114, 121])).1) y1.2)) ∧
                (¬ ((mContains_string y1.1 (mLower (rx (mSplitList (mFieldGet a0.2.1 (lit [118, 97, 114, 121])).1) y1.2))) = true) →
                  (y1.1.length + [(mLower (rx (mSplitList (mFieldGet a0.2.1 (lit [118, 97, 114, 121])).1) y1.2))].length) * 16 ≤ 140737488355328 ∧
                  (L0 ((y1.1 ++ [(mLower (rx (mSplitList (mFieldGet a0.2.1 (lit [118, 97, 114, 121])).1) y1.2))]), (IntKind.i64.wrap (y1.2 + 1))))) ∧
                (¬ (¬ ((mContains_string y1.1 (mLower (rx (mSplitList (mFieldGet a0.2.1 (lit [118, 97, 114, 121])).1) y1.2))) = true)) →
                  (L0 (y1.1, (IntKind.i64.wrap (y1.2 + 1)))))) ∧
              (¬ (y1.2 < ((mSplitList (mFieldGet a0.2.1 (lit [118, 97, 114, 121])).1).length : Int)) →
                (Q y1.1))
            ) →
            (L0 y1)))
      ) →
      (L0 ([], 0))))

def s_impl_bodies (a0 : (List Slt)) (Q : (Int → Prop)) : Prop :=
  (∀ L0 : ((Int × Int) → Prop),
    ((
        (∀ y1 : (Int × Int),
          ((
              (y1.2 < (a0.length : Int) →
                0 ≤ y1.2 ∧
                y1.2 < (a0.length : Int) ∧
                (L0 ((IntKind.i64.wrap (y1.1 + ((rx a0 y1.2).2.2.2.2.1.size : Int))), (IntKind.i64.wrap (y1.2 + 1))))) ∧
              (¬ (y1.2 < (a0.length : Int)) →
                (Q y1.1))
            ) →
            (L0 y1)))
      ) →
      (L0 (0, 0))))

def s_impl_bodiless (a0 : Int) (Q : (Bool → Prop)) : Prop :=
  (a0 = 204 →
    (Q true)) ∧
  (¬ (a0 = 204) →
    (Q (decide (a0 = 304))))

def s_impl_bodyFields (a0 : (List Fld)) (Q : (Bool → Prop)) : Prop :=
  pHasField a0 (lit [99, 111, 110, 116, 101, 110, 116, 45, 108, 101, 110, 103, 116, 104]) ∧
  ((mHasField a0 (lit [99, 111, 110, 116, 101, 110, 116, 45, 108, 101, 110, 103, 116, 104])) = true →
    (Q true)) ∧
  (¬ ((mHasField a0 (lit [99, 111, 110, 116, 101, 110, 116, 45, 108, 101, 110, 103, 116, 104])) = true) →
    pHasField a0 (lit [116, 114, 97, 110, 115, 102, 101, 114, 45, 101, 110, 99, 111, 100, 105, 110, 103]) ∧
    (Q (mHasField a0 (lit [116, 114, 97, 110, 115, 102, 101, 114, 45, 101, 110, 99, 111, 100, 105, 110, 103]))))

def s_impl_commas (a0 : S) (Q : ((List Int) → Prop)) : Prop :=
  (∀ L0 : (((List Int) × (Bool × Int)) → Prop),
    ((
        (∀ y1 : ((List Int) × (Bool × Int)),
          ((
              (y1.2.2 < (a0.size : Int) →
                0 ≤ y1.2.2 ∧
                y1.2.2 < (a0.size : Int) ∧
                ((bt a0 y1.2.2) = 34 →
                  (L0 (y1.1, (decide (¬ (y1.2.1 = true))), (IntKind.i64.wrap (y1.2.2 + 1))))) ∧
                (¬ ((bt a0 y1.2.2) = 34) →
                  (y1.2.1 = true →
                    0 ≤ y1.2.2 ∧
                    y1.2.2 < (a0.size : Int) ∧
                    ((bt a0 y1.2.2) = 92 →
                      (L0 (y1.1, y1.2.1, (IntKind.i64.wrap ((IntKind.i64.wrap (y1.2.2 + 1)) + 1))))) ∧
                    (¬ ((bt a0 y1.2.2) = 92) →
                      (¬ (y1.2.1 = true) →
                        0 ≤ y1.2.2 ∧
                        y1.2.2 < (a0.size : Int) ∧
                        ((bt a0 y1.2.2) = 44 →
                          (y1.1.length + [y1.2.2].length) * 8 ≤ 140737488355328 ∧
                          (L0 ((y1.1 ++ [y1.2.2]), y1.2.1, (IntKind.i64.wrap (y1.2.2 + 1))))) ∧
                        (¬ ((bt a0 y1.2.2) = 44) →
                          (L0 (y1.1, y1.2.1, (IntKind.i64.wrap (y1.2.2 + 1)))))) ∧
                      (¬ (¬ (y1.2.1 = true)) →
                        (L0 (y1.1, y1.2.1, (IntKind.i64.wrap (y1.2.2 + 1))))))) ∧
                  (¬ (y1.2.1 = true) →
                    (¬ (y1.2.1 = true) →
                      0 ≤ y1.2.2 ∧
                      y1.2.2 < (a0.size : Int) ∧
                      ((bt a0 y1.2.2) = 44 →
                        (y1.1.length + [y1.2.2].length) * 8 ≤ 140737488355328 ∧
                        (L0 ((y1.1 ++ [y1.2.2]), y1.2.1, (IntKind.i64.wrap (y1.2.2 + 1))))) ∧
                      (¬ ((bt a0 y1.2.2) = 44) →
                        (L0 (y1.1, y1.2.1, (IntKind.i64.wrap (y1.2.2 + 1)))))) ∧
                    (¬ (¬ (y1.2.1 = true)) →
                      (L0 (y1.1, y1.2.1, (IntKind.i64.wrap (y1.2.2 + 1)))))))) ∧
              (¬ (y1.2.2 < (a0.size : Int)) →
                (Q y1.1))
            ) →
            (L0 y1)))
      ) →
      (L0 ([], false, 0))))

def s_impl_fieldOk (a0 : Fld) (Q : (Bool → Prop)) : Prop :=
  pIsTokenText a0.1 ∧
  ((mIsTokenText a0.1) = true →
    ((a0.1.size : Int) ≤ 24 →
      pLower a0.1 ∧
      ((mLower a0.1) = a0.1 →
        pIsValueText a0.2 ∧
        ((mIsValueText a0.2) = true →
          (Q (decide ((a0.2.size : Int) ≤ 60)))) ∧
        (¬ ((mIsValueText a0.2) = true) →
          (Q false))) ∧
      (¬ ((mLower a0.1) = a0.1) →
        (Q false))) ∧
    (¬ ((a0.1.size : Int) ≤ 24) →
      (Q false))) ∧
  (¬ ((mIsTokenText a0.1) = true) →
    (Q false))

def s_impl_hasField (a0 : (List Fld)) (a1 : S) (Q : (Bool → Prop)) : Prop :=
  pFieldGet a0 a1 ∧
  (Q (mFieldGet a0 a1).2)

def s_impl_in (a0 : Int) (a1 : Int) (a2 : Int) (Q : (Bool → Prop)) : Prop :=
  (a1 ≤ a0 →
    (Q (decide (a0 ≤ a2)))) ∧
  (¬ (a1 ≤ a0) →
    (Q false))

def s_impl_isLetterOrDigit (a0 : Int) (Q : (Bool → Prop)) : Prop :=
  (97 ≤ a0 →
    (a0 ≤ 122 →
      (Q true)) ∧
    (¬ (a0 ≤ 122) →
      (65 ≤ a0 →
        (a0 ≤ 90 →
          (Q true)) ∧
        (¬ (a0 ≤ 90) →
          (48 ≤ a0 →
            (Q (decide (a0 ≤ 57)))) ∧
          (¬ (48 ≤ a0) →
            (Q false)))) ∧
      (¬ (65 ≤ a0) →
        (48 ≤ a0 →
          (Q (decide (a0 ≤ 57)))) ∧
        (¬ (48 ≤ a0) →
          (Q false))))) ∧
  (¬ (97 ≤ a0) →
    (65 ≤ a0 →
      (a0 ≤ 90 →
        (Q true)) ∧
      (¬ (a0 ≤ 90) →
        (48 ≤ a0 →
          (Q (decide (a0 ≤ 57)))) ∧
        (¬ (48 ≤ a0) →
          (Q false)))) ∧
    (¬ (65 ≤ a0) →
      (48 ≤ a0 →
        (Q (decide (a0 ≤ 57)))) ∧
      (¬ (48 ≤ a0) →
        (Q false))))

def s_impl_ownFields (a0 : (List Fld)) (Q : (Bool → Prop)) : Prop :=
  pFieldsOk a0 ∧
  ((mFieldsOk a0) = true →
    ((a0.length : Int) < 12 →
      pBodyFields a0 ∧
      (Q (decide (¬ ((mBodyFields a0) = true))))) ∧
    (¬ ((a0.length : Int) < 12) →
      (Q false))) ∧
  (¬ ((mFieldsOk a0) = true) →
    (Q false))

def s_impl_shardSizes (a0 : Int) (a1 : Int) (Q : (Bool → Prop)) : Prop :=
  pIn a0 1 8 ∧
  ((mIn a0 1 8) = true →
    pIn a1 0 500 ∧
    (Q (mIn a1 0 500))) ∧
  (¬ ((mIn a0 1 8) = true) →
    (Q false))

def s_impl_standAlike (a0 : Sto) (a1 : Sto) (Q : (Bool → Prop)) : Prop :=
  (a0.1 = a1.1 →
    pSameFields a0.2.1 a1.2.1 ∧
    (Q (mSameFields a0.2.1 a1.2.1))) ∧
  (¬ (a0.1 = a1.1) →
    (Q false))

def s_slices_Contains_string (a0 : (List S)) (a1 : S) (Q : (Bool → Prop)) : Prop :=
  pIndex_string a0 a1 ∧
  (Q (decide (0 ≤ (mIndex_string a0 a1))))

def s_slices_Equal_Field (a0 : (List Fld)) (a1 : (List Fld)) (Q : (Bool → Prop)) : Prop :=
  ((a0.length : Int) ≠ (a1.length : Int) →
    (Q false)) ∧
  (¬ ((a0.length : Int) ≠ (a1.length : Int)) →
    (∀ L0 : (Int → Prop),
      ((
          (∀ y1 : Int,
            ((
                (y1 < (a0.length : Int) →
                  0 ≤ y1 ∧
                  y1 < (a0.length : Int) ∧
                  0 ≤ y1 ∧
                  y1 < (a1.length : Int) ∧
                  (¬ ((rx a0 y1) = (rx a1 y1)) →
                    (Q false)) ∧
                  (¬ (¬ ((rx a0 y1) = (rx a1 y1))) →
                    (L0 (IntKind.i64.wrap (y1 + 1))))) ∧
                (¬ (y1 < (a0.length : Int)) →
                  (Q true))
              ) →
              (L0 y1)))
        ) →
        (L0 0))))

def s_slices_Index_string (a0 : (List S)) (a1 : S) (Q : (Int → Prop)) : Prop :=
  (∀ L0 : (Int → Prop),
    ((
        (∀ y1 : Int,
          ((
              (y1 < (a0.length : Int) →
                0 ≤ y1 ∧
                y1 < (a0.length : Int) ∧
                (a1 = (rx a0 y1) →
                  (Q y1)) ∧
                (¬ (a1 = (rx a0 y1)) →
                  (L0 (IntKind.i64.wrap (y1 + 1))))) ∧
              (¬ (y1 < (a0.length : Int)) →
                (Q (-1)))
            ) →
            (L0 y1)))
      ) →
      (L0 0)))

def s_spec_FieldGet (a0 : (List Fld)) (a1 : S) (Q : ((S × Bool) → Prop)) : Prop :=
  (∀ L0 : ((S × (Bool × Int)) → Prop),
    ((
        (∀ y1 : (S × (Bool × Int)),
          ((
              (y1.2.2 < (a0.length : Int) →
                0 ≤ y1.2.2 ∧
                y1.2.2 < (a0.length : Int) ∧
                ((rx a0 y1.2.2).1 ≠ a1 →
                  (L0 (y1.1, y1.2.1, (IntKind.i64.wrap (y1.2.2 + 1))))) ∧
                (¬ ((rx a0 y1.2.2).1 ≠ a1) →
                  (y1.2.1 = true →
                    y1.1.size + (lit [44, 32]).size ≤ 9223372036854775807 ∧
                    0 ≤ y1.2.2 ∧
                    y1.2.2 < (a0.length : Int) ∧
                    (y1.1 ++ (lit [44, 32])).size + (rx a0 y1.2.2).2.size ≤ 9223372036854775807 ∧
                    (L0 (((y1.1 ++ (lit [44, 32])) ++ (rx a0 y1.2.2).2), true, (IntKind.i64.wrap (y1.2.2 + 1))))) ∧
                  (¬ (y1.2.1 = true) →
                    0 ≤ y1.2.2 ∧
                    y1.2.2 < (a0.length : Int) ∧
                    y1.1.size + (rx a0 y1.2.2).2.size ≤ 9223372036854775807 ∧
                    (L0 ((y1.1 ++ (rx a0 y1.2.2).2), true, (IntKind.i64.wrap (y1.2.2 + 1))))))) ∧
              (¬ (y1.2.2 < (a0.length : Int)) →
                (Q (y1.1, y1.2.1)))
            ) →
            (L0 y1)))
      ) →
      (L0 ((lit []), false, 0))))

def s_spec_FieldsOk (a0 : (List Fld)) (Q : (Bool → Prop)) : Prop :=
  (∀ L0 : (Int → Prop),
    ((
        (∀ y1 : Int,
          ((
              (y1 < (a0.length : Int) →
                0 ≤ y1 ∧
                y1 < (a0.length : Int) ∧
                pFieldOk (rx a0 y1) ∧
                (¬ ((mFieldOk (rx a0 y1)) = true) →
                  (Q false)) ∧
                (¬ (¬ ((mFieldOk (rx a0 y1)) = true)) →
                  (L0 (IntKind.i64.wrap (y1 + 1))))) ∧
              (¬ (y1 < (a0.length : Int)) →
                (Q (decide ((a0.length : Int) ≤ 12))))
            ) →
            (L0 y1)))
      ) →
      (L0 0)))

def s_spec_IsTokenText (a0 : S) (Q : (Bool → Prop)) : Prop :=
  (∀ L0 : (Int → Prop),
    ((
        (∀ y1 : Int,
          ((
              (y1 < (a0.size : Int) →
                0 ≤ y1 ∧
                y1 < (a0.size : Int) ∧
                pToken (bt a0 y1) ∧
                (¬ ((mToken (bt a0 y1)) = true) →
                  (Q false)) ∧
                (¬ (¬ ((mToken (bt a0 y1)) = true)) →
                  (L0 (IntKind.i64.wrap (y1 + 1))))) ∧
              (¬ (y1 < (a0.size : Int)) →
                (Q (decide (0 < (a0.size : Int)))))
            ) →
            (L0 y1)))
      ) →
      (L0 0)))

def s_spec_IsValueText (a0 : S) (Q : (Bool → Prop)) : Prop :=
  (∀ L0 : (Int → Prop),
    ((
        (∀ y1 : Int,
          ((
              (y1 < (a0.size : Int) →
                0 ≤ y1 ∧
                y1 < (a0.size : Int) ∧
                ((bt a0 y1) ≠ 9 →
                  0 ≤ y1 ∧
                  y1 < (a0.size : Int) ∧
                  ((bt a0 y1) < 32 →
                    (Q false)) ∧
                  (¬ ((bt a0 y1) < 32) →
                    0 ≤ y1 ∧
                    y1 < (a0.size : Int) ∧
                    ((bt a0 y1) = 127 →
                      (Q false)) ∧
                    (¬ ((bt a0 y1) = 127) →
                      (L0 (IntKind.i64.wrap (y1 + 1)))))) ∧
                (¬ ((bt a0 y1) ≠ 9) →
                  (L0 (IntKind.i64.wrap (y1 + 1))))) ∧
              (¬ (y1 < (a0.size : Int)) →
                pTrim a0 ∧
                (Q (decide ((mTrim a0) = a0))))
            ) →
            (L0 y1)))
      ) →
      (L0 0)))

def s_spec_Lower (a0 : S) (Q : (S → Prop)) : Prop :=
  a0.size ≤ 140737488355328 ∧
  (∀ L0 : ((Int × (List Int)) → Prop),
    ((
        (∀ y1 : (Int × (List Int)),
          ((
              (y1.1 < (y1.2.length : Int) →
                0 ≤ y1.1 ∧
                y1.1 < (y1.2.length : Int) ∧
                (65 ≤ (rx y1.2 y1.1) →
                  0 ≤ y1.1 ∧
                  y1.1 < (y1.2.length : Int) ∧
                  ((rx y1.2 y1.1) ≤ 90 →
                    0 ≤ y1.1 ∧
                    y1.1 < (y1.2.length : Int) ∧
                    0 ≤ y1.1 ∧
                    y1.1 < (y1.2.length : Int) ∧
                    (L0 ((IntKind.i64.wrap (y1.1 + 1)), (y1.2.set y1.1.toNat (IntKind.u8.wrap ((rx y1.2 y1.1) + 32)))))) ∧
                  (¬ ((rx y1.2 y1.1) ≤ 90) →
                    (L0 ((IntKind.i64.wrap (y1.1 + 1)), y1.2)))) ∧
                (¬ (65 ≤ (rx y1.2 y1.1)) →
                  (L0 ((IntKind.i64.wrap (y1.1 + 1)), y1.2)))) ∧
              (¬ (y1.1 < (y1.2.length : Int)) →
                (Q (strOf y1.2)))
            ) →
            (L0 y1)))
      ) →
      (L0 (0, (bytesOf a0)))))

def s_spec_Normal (a0 : S) (Q : (S → Prop)) : Prop :=
  pSplitList a0 ∧
  (∀ L0 : (Gen → Prop),
    ((
        (∀ y1 : Gen,
          ((
              (y1.2 < ((mSplitList a0).length : Int) →
                (0 < y1.2 →
                  y1.1.size + (lit [44, 32]).size ≤ 9223372036854775807 ∧
                  0 ≤ y1.2 ∧
                  y1.2 < ((mSplitList a0).length : Int) ∧
                  (y1.1 ++ (lit [44, 32])).size + (rx (mSplitList a0) y1.2).size ≤ 9223372036854775807 ∧
                  (L0 (((y1.1 ++ (lit [44, 32])) ++ (rx (mSplitList a0) y1.2)), (IntKind.i64.wrap (y1.2 + 1))))) ∧
                (¬ (0 < y1.2) →
                  0 ≤ y1.2 ∧
                  y1.2 < ((mSplitList a0).length : Int) ∧
                  y1.1.size + (rx (mSplitList a0) y1.2).size ≤ 9223372036854775807 ∧
                  (L0 ((y1.1 ++ (rx (mSplitList a0) y1.2)), (IntKind.i64.wrap (y1.2 + 1)))))) ∧
              (¬ (y1.2 < ((mSplitList a0).length : Int)) →
                (Q y1.1))
            ) →
            (L0 y1)))
      ) →
      (L0 ((lit []), 0))))

def s_spec_Picked (a0 : Req) (a1 : Rsp) (Q : ((List Fld) → Prop)) : Prop :=
  pVaryNames a1 ∧
  (∀ L0 : (((List Fld) × Int) → Prop),
    ((
        (∀ y1 : ((List Fld) × Int),
          ((
              (y1.2 < ((mVaryNames a1).length : Int) →
                0 ≤ y1.2 ∧
                y1.2 < ((mVaryNames a1).length : Int) ∧
                pFieldGet a0.2.2.1 (rx (mVaryNames a1) y1.2) ∧
                ((mFieldGet a0.2.2.1 (rx (mVaryNames a1) y1.2)).2 = true →
                  0 ≤ y1.2 ∧
                  y1.2 < ((mVaryNames a1).length : Int) ∧
                  pNormal (mFieldGet a0.2.2.1 (rx (mVaryNames a1) y1.2)).1 ∧
                  (y1.1.length + [((rx (mVaryNames a1) y1.2), (mNormal (mFieldGet a0.2.2.1 (rx (mVaryNames a1) y1.2)).1))].length) * 32 ≤ 140737488355328 ∧
                  (L0 ((y1.1 ++ [((rx (mVaryNames a1) y1.2), (mNormal (mFieldGet a0.2.2.1 (rx (mVaryNames a1) y1.2)).1))]), (IntKind.i64.wrap (y1.2 + 1))))) ∧
                (¬ ((mFieldGet a0.2.2.1 (rx (mVaryNames a1) y1.2)).2 = true) →
                  (L0 (y1.1, (IntKind.i64.wrap (y1.2 + 1)))))) ∧
              (¬ (y1.2 < ((mVaryNames a1).length : Int)) →
                (Q y1.1))
            ) →
            (L0 y1)))
      ) →
      (L0 ([], 0))))

def s_spec_ResponseOk (a0 : Rsp) (Q : (Bool → Prop)) : Prop :=
  pIn a0.1 200 599 ∧
  ((mIn a0.1 200 599) = true →
    pOwnFields a0.2.1 ∧
    ((mOwnFields a0.2.1) = true →
      ((a0.2.2.size : Int) ≤ 60 →
        (a0.1 ≠ 204 →
          (a0.1 ≠ 304 →
            (Q true)) ∧
          (¬ (a0.1 ≠ 304) →
            (Q (decide (a0.2.2 = (lit [])))))) ∧
        (¬ (a0.1 ≠ 204) →
          (Q (decide (a0.2.2 = (lit [])))))) ∧
      (¬ ((a0.2.2.size : Int) ≤ 60) →
        (Q false))) ∧
    (¬ ((mOwnFields a0.2.1) = true) →
      (Q false))) ∧
  (¬ ((mIn a0.1 200 599) = true) →
    (Q false))

def s_spec_SameFields (a0 : (List Fld)) (a1 : (List Fld)) (Q : (Bool → Prop)) : Prop :=
  ((a0.length : Int) ≠ (a1.length : Int) →
    (Q false)) ∧
  (¬ ((a0.length : Int) ≠ (a1.length : Int)) →
    (∀ L0 : (Int → Prop),
      ((
          (∀ y1 : Int,
            ((
                (y1 < (a0.length : Int) →
                  0 ≤ y1 ∧
                  y1 < (a0.length : Int) ∧
                  0 ≤ y1 ∧
                  y1 < (a1.length : Int) ∧
                  (¬ ((rx a0 y1) = (rx a1 y1)) →
                    (Q false)) ∧
                  (¬ (¬ ((rx a0 y1) = (rx a1 y1))) →
                    (L0 (IntKind.i64.wrap (y1 + 1))))) ∧
                (¬ (y1 < (a0.length : Int)) →
                  (Q true))
              ) →
              (L0 y1)))
        ) →
        (L0 0))))

def s_spec_ShardOk (a0 : Shd) (Q : (Bool → Prop)) : Prop :=
  pIn a0.1 1 8 ∧
  (¬ ((mIn a0.1 1 8) = true) →
    (Q false)) ∧
  (¬ (¬ ((mIn a0.1 1 8) = true)) →
    pIn a0.2.1 0 500 ∧
    (¬ ((mIn a0.2.1 0 500) = true) →
      (Q false)) ∧
    (¬ (¬ ((mIn a0.2.1 0 500) = true)) →
      (a0.1 < (a0.2.2.1.length : Int) →
        (Q false)) ∧
      (¬ (a0.1 < (a0.2.2.1.length : Int)) →
        pFilledS a0 ∧
        (a0.2.1 < (mFilledS a0) →
          (Q false)) ∧
        (¬ (a0.2.1 < (mFilledS a0)) →
          (a0.2.2.2 ≠ 0 →
            pIn a0.2.2.2 0 (IntKind.i64.wrap ((a0.2.2.1.length : Int) - 1)) ∧
            (¬ ((mIn a0.2.2.2 0 (IntKind.i64.wrap ((a0.2.2.1.length : Int) - 1))) = true) →
              (Q false)) ∧
            (¬ (¬ ((mIn a0.2.2.2 0 (IntKind.i64.wrap ((a0.2.2.1.length : Int) - 1))) = true)) →
              (∀ L0 : (Int → Prop),
                ((
                    (∀ y1 : Int,
                      ((
                          (y1 < (a0.2.2.1.length : Int) →
                            0 ≤ y1 ∧
                            y1 < (a0.2.2.1.length : Int) ∧
                            pStoredOk ((rx a0.2.2.1 y1).1, (rx a0.2.2.1 y1).2.1, (rx a0.2.2.1 y1).2.2.1, (rx a0.2.2.1 y1).2.2.2.1, (rx a0.2.2.1 y1).2.2.2.2.1, (rx a0.2.2.1 y1).2.2.2.2.2.1, (rx a0.2.2.1 y1).2.2.2.2.2.2.1) ∧
                            (¬ ((mStoredOk ((rx a0.2.2.1 y1).1, (rx a0.2.2.1 y1).2.1, (rx a0.2.2.1 y1).2.2.1, (rx a0.2.2.1 y1).2.2.2.1, (rx a0.2.2.1 y1).2.2.2.2.1, (rx a0.2.2.1 y1).2.2.2.2.2.1, (rx a0.2.2.1 y1).2.2.2.2.2.2.1)) = true) →
                              (Q false)) ∧
                            (¬ (¬ ((mStoredOk ((rx a0.2.2.1 y1).1, (rx a0.2.2.1 y1).2.1, (rx a0.2.2.1 y1).2.2.1, (rx a0.2.2.1 y1).2.2.2.1, (rx a0.2.2.1 y1).2.2.2.2.1, (rx a0.2.2.1 y1).2.2.2.2.2.1, (rx a0.2.2.1 y1).2.2.2.2.2.2.1)) = true)) →
                              (∀ L2 : (Int → Prop),
                                ((
                                    (∀ y3 : Int,
                                      ((
                                          (y3 < y1 →
                                            0 ≤ y3 ∧
                                            y3 < (a0.2.2.1.length : Int) ∧
                                            0 ≤ y1 ∧
                                            y1 < (a0.2.2.1.length : Int) ∧
                                            pStandAlike ((rx a0.2.2.1 y3).1, (rx a0.2.2.1 y3).2.1, (rx a0.2.2.1 y3).2.2.1, (rx a0.2.2.1 y3).2.2.2.1, (rx a0.2.2.1 y3).2.2.2.2.1, (rx a0.2.2.1 y3).2.2.2.2.2.1, (rx a0.2.2.1 y3).2.2.2.2.2.2.1) ((rx a0.2.2.1 y1).1, (rx a0.2.2.1 y1).2.1, (rx a0.2.2.1 y1).2.2.1, (rx a0.2.2.1 y1).2.2.2.1, (rx a0.2.2.1 y1).2.2.2.2.1, (rx a0.2.2.1 y1).2.2.2.2.2.1, (rx a0.2.2.1 y1).2.2.2.2.2.2.1) ∧
                                            ((mStandAlike ((rx a0.2.2.1 y3).1, (rx a0.2.2.1 y3).2.1, (rx a0.2.2.1 y3).2.2.1, (rx a0.2.2.1 y3).2.2.2.1, (rx a0.2.2.1 y3).2.2.2.2.1, (rx a0.2.2.1 y3).2.2.2.2.2.1, (rx a0.2.2.1 y3).2.2.2.2.2.2.1) ((rx a0.2.2.1 y1).1, (rx a0.2.2.1 y1).2.1, (rx a0.2.2.1 y1).2.2.1, (rx a0.2.2.1 y1).2.2.2.1, (rx a0.2.2.1 y1).2.2.2.2.1, (rx a0.2.2.1 y1).2.2.2.2.2.1, (rx a0.2.2.1 y1).2.2.2.2.2.2.1)) = true →
                                              (Q false)) ∧
                                            (¬ ((mStandAlike ((rx a0.2.2.1 y3).1, (rx a0.2.2.1 y3).2.1, (rx a0.2.2.1 y3).2.2.1, (rx a0.2.2.1 y3).2.2.2.1, (rx a0.2.2.1 y3).2.2.2.2.1, (rx a0.2.2.1 y3).2.2.2.2.2.1, (rx a0.2.2.1 y3).2.2.2.2.2.2.1) ((rx a0.2.2.1 y1).1, (rx a0.2.2.1 y1).2.1, (rx a0.2.2.1 y1).2.2.1, (rx a0.2.2.1 y1).2.2.2.1, (rx a0.2.2.1 y1).2.2.2.2.1, (rx a0.2.2.1 y1).2.2.2.2.2.1, (rx a0.2.2.1 y1).2.2.2.2.2.2.1)) = true) →
                                              (L2 (IntKind.i64.wrap (y3 + 1))))) ∧
                                          (¬ (y3 < y1) →
                                            (L0 (IntKind.i64.wrap (y1 + 1))))
                                        ) →
                                        (L2 y3)))
                                  ) →
                                  (L2 0))))) ∧
                          (¬ (y1 < (a0.2.2.1.length : Int)) →
                            (Q true))
                        ) →
                        (L0 y1)))
                  ) →
                  (L0 0))))) ∧
          (¬ (a0.2.2.2 ≠ 0) →
            (∀ L4 : (Int → Prop),
              ((
                  (∀ y5 : Int,
                    ((
                        (y5 < (a0.2.2.1.length : Int) →
                          0 ≤ y5 ∧
                          y5 < (a0.2.2.1.length : Int) ∧
                          pStoredOk ((rx a0.2.2.1 y5).1, (rx a0.2.2.1 y5).2.1, (rx a0.2.2.1 y5).2.2.1, (rx a0.2.2.1 y5).2.2.2.1, (rx a0.2.2.1 y5).2.2.2.2.1, (rx a0.2.2.1 y5).2.2.2.2.2.1, (rx a0.2.2.1 y5).2.2.2.2.2.2.1) ∧
                          (¬ ((mStoredOk ((rx a0.2.2.1 y5).1, (rx a0.2.2.1 y5).2.1, (rx a0.2.2.1 y5).2.2.1, (rx a0.2.2.1 y5).2.2.2.1, (rx a0.2.2.1 y5).2.2.2.2.1, (rx a0.2.2.1 y5).2.2.2.2.2.1, (rx a0.2.2.1 y5).2.2.2.2.2.2.1)) = true) →
                            (Q false)) ∧
                          (¬ (¬ ((mStoredOk ((rx a0.2.2.1 y5).1, (rx a0.2.2.1 y5).2.1, (rx a0.2.2.1 y5).2.2.1, (rx a0.2.2.1 y5).2.2.2.1, (rx a0.2.2.1 y5).2.2.2.2.1, (rx a0.2.2.1 y5).2.2.2.2.2.1, (rx a0.2.2.1 y5).2.2.2.2.2.2.1)) = true)) →
                            (∀ L6 : (Int → Prop),
                              ((
                                  (∀ y7 : Int,
                                    ((
                                        (y7 < y5 →
                                          0 ≤ y7 ∧
                                          y7 < (a0.2.2.1.length : Int) ∧
                                          0 ≤ y5 ∧
                                          y5 < (a0.2.2.1.length : Int) ∧
                                          pStandAlike ((rx a0.2.2.1 y7).1, (rx a0.2.2.1 y7).2.1, (rx a0.2.2.1 y7).2.2.1, (rx a0.2.2.1 y7).2.2.2.1, (rx a0.2.2.1 y7).2.2.2.2.1, (rx a0.2.2.1 y7).2.2.2.2.2.1, (rx a0.2.2.1 y7).2.2.2.2.2.2.1) ((rx a0.2.2.1 y5).1, (rx a0.2.2.1 y5).2.1, (rx a0.2.2.1 y5).2.2.1, (rx a0.2.2.1 y5).2.2.2.1, (rx a0.2.2.1 y5).2.2.2.2.1, (rx a0.2.2.1 y5).2.2.2.2.2.1, (rx a0.2.2.1 y5).2.2.2.2.2.2.1) ∧
                                          ((mStandAlike ((rx a0.2.2.1 y7).1, (rx a0.2.2.1 y7).2.1, (rx a0.2.2.1 y7).2.2.1, (rx a0.2.2.1 y7).2.2.2.1, (rx a0.2.2.1 y7).2.2.2.2.1, (rx a0.2.2.1 y7).2.2.2.2.2.1, (rx a0.2.2.1 y7).2.2.2.2.2.2.1) ((rx a0.2.2.1 y5).1, (rx a0.2.2.1 y5).2.1, (rx a0.2.2.1 y5).2.2.1, (rx a0.2.2.1 y5).2.2.2.1, (rx a0.2.2.1 y5).2.2.2.2.1, (rx a0.2.2.1 y5).2.2.2.2.2.1, (rx a0.2.2.1 y5).2.2.2.2.2.2.1)) = true →
                                            (Q false)) ∧
                                          (¬ ((mStandAlike ((rx a0.2.2.1 y7).1, (rx a0.2.2.1 y7).2.1, (rx a0.2.2.1 y7).2.2.1, (rx a0.2.2.1 y7).2.2.2.1, (rx a0.2.2.1 y7).2.2.2.2.1, (rx a0.2.2.1 y7).2.2.2.2.2.1, (rx a0.2.2.1 y7).2.2.2.2.2.2.1) ((rx a0.2.2.1 y5).1, (rx a0.2.2.1 y5).2.1, (rx a0.2.2.1 y5).2.2.1, (rx a0.2.2.1 y5).2.2.2.1, (rx a0.2.2.1 y5).2.2.2.2.1, (rx a0.2.2.1 y5).2.2.2.2.2.1, (rx a0.2.2.1 y5).2.2.2.2.2.2.1)) = true) →
                                            (L6 (IntKind.i64.wrap (y7 + 1))))) ∧
                                        (¬ (y7 < y5) →
                                          (L4 (IntKind.i64.wrap (y5 + 1))))
                                      ) →
                                      (L6 y7)))
                                ) →
                                (L6 0))))) ∧
                        (¬ (y5 < (a0.2.2.1.length : Int)) →
                          (Q true))
                      ) →
                      (L4 y5)))
                ) →
                (L4 0))))))))

def s_spec_SplitList (a0 : S) (Q : ((List S) → Prop)) : Prop :=
  (∀ L0 : (((List S) × (Int × (Bool × Int))) → Prop),
    ((
        (∀ y1 : ((List S) × (Int × (Bool × Int))),
          ((
              (y1.2.2.2 ≤ (a0.size : Int) →
                (y1.2.2.2 < (a0.size : Int) →
                  0 ≤ y1.2.2.2 ∧
                  y1.2.2.2 < (a0.size : Int) ∧
                  ((bt a0 y1.2.2.2) = 34 →
                    (y1.2.2.2 < (a0.size : Int) →
                      (¬ (y1.2.2.1 = true) →
                        0 ≤ y1.2.2.2 ∧
                        y1.2.2.2 < (a0.size : Int) ∧
                        ((bt a0 y1.2.2.2) = 92 →
                          (L0 (y1.1, y1.2.1, (decide (¬ (y1.2.2.1 = true))), (IntKind.i64.wrap ((IntKind.i64.wrap (y1.2.2.2 + 1)) + 1))))) ∧
                        (¬ ((bt a0 y1.2.2.2) = 92) →
                          ((a0.size : Int) ≤ y1.2.2.2 →
                            0 ≤ y1.2.1 ∧
                            y1.2.1 ≤ (if (a0.size : Int) < y1.2.2.2 then (a0.size : Int) else y1.2.2.2) ∧
                            (if (a0.size : Int) < y1.2.2.2 then (a0.size : Int) else y1.2.2.2) ≤ (a0.size : Int) ∧
                            pTrim (a0.extract y1.2.1.toNat (if (a0.size : Int) < y1.2.2.2 then (a0.size : Int) else y1.2.2.2).toNat) ∧
                            ((mTrim (a0.extract y1.2.1.toNat (if (a0.size : Int) < y1.2.2.2 then (a0.size : Int) else y1.2.2.2).toNat)) ≠ (lit []) →
                              (y1.1.length + [(mTrim (a0.extract y1.2.1.toNat (if (a0.size : Int) < y1.2.2.2 then (a0.size : Int) else y1.2.2.2).toNat))].length) * 16 ≤ 140737488355328 ∧
                              (L0 ((y1.1 ++ [(mTrim (a0.extract y1.2.1.toNat (if (a0.size : Int) < y1.2.2.2 then (a0.size : Int) else y1.2.2.2).toNat))]), (IntKind.i64.wrap (y1.2.2.2 + 1)), (decide (¬ (y1.2.2.1 = true))), (IntKind.i64.wrap (y1.2.2.2 + 1))))) ∧
                            (¬ ((mTrim (a0.extract y1.2.1.toNat (if (a0.size : Int) < y1.2.2.2 then (a0.size : Int) else y1.2.2.2).toNat)) ≠ (lit [])) →
                              (L0 (y1.1, (IntKind.i64.wrap (y1.2.2.2 + 1)), (decide (¬ (y1.2.2.1 = true))), (IntKind.i64.wrap (y1.2.2.2 + 1)))))) ∧
                          (¬ ((a0.size : Int) ≤ y1.2.2.2) →
                            0 ≤ y1.2.2.2 ∧
                            y1.2.2.2 < (a0.size : Int) ∧
                            ((bt a0 y1.2.2.2) = 44 →
                              (¬ (¬ (y1.2.2.1 = true)) →
                                0 ≤ y1.2.1 ∧
                                y1.2.1 ≤ (if (a0.size : Int) < y1.2.2.2 then (a0.size : Int) else y1.2.2.2) ∧
                                (if (a0.size : Int) < y1.2.2.2 then (a0.size : Int) else y1.2.2.2) ≤ (a0.size : Int) ∧
                                pTrim (a0.extract y1.2.1.toNat (if (a0.size : Int) < y1.2.2.2 then (a0.size : Int) else y1.2.2.2).toNat) ∧
                                ((mTrim (a0.extract y1.2.1.toNat (if (a0.size : Int) < y1.2.2.2 then (a0.size : Int) else y1.2.2.2).toNat)) ≠ (lit []) →
                                  (y1.1.length + [(mTrim (a0.extract y1.2.1.toNat (if (a0.size : Int) < y1.2.2.2 then (a0.size : Int) else y1.2.2.2).toNat))].length) * 16 ≤ 140737488355328 ∧
                                  (L0 ((y1.1 ++ [(mTrim (a0.extract y1.2.1.toNat (if (a0.size : Int) < y1.2.2.2 then (a0.size : Int) else y1.2.2.2).toNat))]), (IntKind.i64.wrap (y1.2.2.2 + 1)), (decide (¬ (y1.2.2.1 = true))), (IntKind.i64.wrap (y1.2.2.2 + 1))))) ∧
                                (¬ ((mTrim (a0.extract y1.2.1.toNat (if (a0.size : Int) < y1.2.2.2 then (a0.size : Int) else y1.2.2.2).toNat)) ≠ (lit [])) →
                                  (L0 (y1.1, (IntKind.i64.wrap (y1.2.2.2 + 1)), (decide (¬ (y1.2.2.1 = true))), (IntKind.i64.wrap (y1.2.2.2 + 1)))))) ∧
                              (¬ (¬ (¬ (y1.2.2.1 = true))) →
                                (L0 (y1.1, y1.2.1, (decide (¬ (y1.2.2.1 = true))), (IntKind.i64.wrap (y1.2.2.2 + 1)))))) ∧
                            (¬ ((bt a0 y1.2.2.2) = 44) →
                              (L0 (y1.1, y1.2.1, (decide (¬ (y1.2.2.1 = true))), (IntKind.i64.wrap (y1.2.2.2 + 1)))))))) ∧
                      (¬ (¬ (y1.2.2.1 = true)) →
                        ((a0.size : Int) ≤ y1.2.2.2 →
                          0 ≤ y1.2.1 ∧
                          y1.2.1 ≤ (if (a0.size : Int) < y1.2.2.2 then (a0.size : Int) else y1.2.2.2) ∧
                          (if (a0.size : Int) < y1.2.2.2 then (a0.size : Int) else y1.2.2.2) ≤ (a0.size : Int) ∧
                          pTrim (a0.extract y1.2.1.toNat (if (a0.size : Int) < y1.2.2.2 then (a0.size : Int) else y1.2.2.2).toNat) ∧
                          ((mTrim (a0.extract y1.2.1.toNat (if (a0.size : Int) < y1.2.2.2 then (a0.size : Int) else y1.2.2.2).toNat)) ≠ (lit []) →
                            (y1.1.length + [(mTrim (a0.extract y1.2.1.toNat (if (a0.size : Int) < y1.2.2.2 then (a0.size : Int) else y1.2.2.2).toNat))].length) * 16 ≤ 140737488355328 ∧
                            (L0 ((y1.1 ++ [(mTrim (a0.extract y1.2.1.toNat (if (a0.size : Int) < y1.2.2.2 then (a0.size : Int) else y1.2.2.2).toNat))]), (IntKind.i64.wrap (y1.2.2.2 + 1)), (decide (¬ (y1.2.2.1 = true))), (IntKind.i64.wrap (y1.2.2.2 + 1))))) ∧
                          (¬ ((mTrim (a0.extract y1.2.1.toNat (if (a0.size : Int) < y1.2.2.2 then (a0.size : Int) else y1.2.2.2).toNat)) ≠ (lit [])) →
                            (L0 (y1.1, (IntKind.i64.wrap (y1.2.2.2 + 1)), (decide (¬ (y1.2.2.1 = true))), (IntKind.i64.wrap (y1.2.2.2 + 1)))))) ∧
                        (¬ ((a0.size : Int) ≤ y1.2.2.2) →
                          0 ≤ y1.2.2.2 ∧
                          y1.2.2.2 < (a0.size : Int) ∧
                          ((bt a0 y1.2.2.2) = 44 →
                            (¬ (¬ (y1.2.2.1 = true)) →
                              0 ≤ y1.2.1 ∧
                              y1.2.1 ≤ (if (a0.size : Int) < y1.2.2.2 then (a0.size : Int) else y1.2.2.2) ∧
                              (if (a0.size : Int) < y1.2.2.2 then (a0.size : Int) else y1.2.2.2) ≤ (a0.size : Int) ∧
                              pTrim (a0.extract y1.2.1.toNat (if (a0.size : Int) < y1.2.2.2 then (a0.size : Int) else y1.2.2.2).toNat) ∧
                              ((mTrim (a0.extract y1.2.1.toNat (if (a0.size : Int) < y1.2.2.2 then (a0.size : Int) else y1.2.2.2).toNat)) ≠ (lit []) →
                                (y1.1.length + [(mTrim (a0.extract y1.2.1.toNat (if (a0.size : Int) < y1.2.2.2 then (a0.size : Int) else y1.2.2.2).toNat))].length) * 16 ≤ 140737488355328 ∧
                                (L0 ((y1.1 ++ [(mTrim (a0.extract y1.2.1.toNat (if (a0.size : Int) < y1.2.2.2 then (a0.size : Int) else y1.2.2.2).toNat))]), (IntKind.i64.wrap (y1.2.2.2 + 1)), (decide (¬ (y1.2.2.1 = true))), (IntKind.i64.wrap (y1.2.2.2 + 1))))) ∧
                              (¬ ((mTrim (a0.extract y1.2.1.toNat (if (a0.size : Int) < y1.2.2.2 then (a0.size : Int) else y1.2.2.2).toNat)) ≠ (lit [])) →
                                (L0 (y1.1, (IntKind.i64.wrap (y1.2.2.2 + 1)), (decide (¬ (y1.2.2.1 = true))), (IntKind.i64.wrap (y1.2.2.2 + 1)))))) ∧
                            (¬ (¬ (¬ (y1.2.2.1 = true))) →
                              (L0 (y1.1, y1.2.1, (decide (¬ (y1.2.2.1 = true))), (IntKind.i64.wrap (y1.2.2.2 + 1)))))) ∧
                          (¬ ((bt a0 y1.2.2.2) = 44) →
                            (L0 (y1.1, y1.2.1, (decide (¬ (y1.2.2.1 = true))), (IntKind.i64.wrap (y1.2.2.2 + 1)))))))) ∧
                    (¬ (y1.2.2.2 < (a0.size : Int)) →
                      ((a0.size : Int) ≤ y1.2.2.2 →
                        0 ≤ y1.2.1 ∧
                        y1.2.1 ≤ (if (a0.size : Int) < y1.2.2.2 then (a0.size : Int) else y1.2.2.2) ∧
                        (if (a0.size : Int) < y1.2.2.2 then (a0.size : Int) else y1.2.2.2) ≤ (a0.size : Int) ∧
                        pTrim (a0.extract y1.2.1.toNat (if (a0.size : Int) < y1.2.2.2 then (a0.size : Int) else y1.2.2.2).toNat) ∧
                        ((mTrim (a0.extract y1.2.1.toNat (if (a0.size : Int) < y1.2.2.2 then (a0.size : Int) else y1.2.2.2).toNat)) ≠ (lit []) →
                          (y1.1.length + [(mTrim (a0.extract y1.2.1.toNat (if (a0.size : Int) < y1.2.2.2 then (a0.size : Int) else y1.2.2.2).toNat))].length) * 16 ≤ 140737488355328 ∧
                          (L0 ((y1.1 ++ [(mTrim (a0.extract y1.2.1.toNat (if (a0.size : Int) < y1.2.2.2 then (a0.size : Int) else y1.2.2.2).toNat))]), (IntKind.i64.wrap (y1.2.2.2 + 1)), (decide (¬ (y1.2.2.1 = true))), (IntKind.i64.wrap (y1.2.2.2 + 1))))) ∧
                        (¬ ((mTrim (a0.extract y1.2.1.toNat (if (a0.size : Int) < y1.2.2.2 then (a0.size : Int) else y1.2.2.2).toNat)) ≠ (lit [])) →
                          (L0 (y1.1, (IntKind.i64.wrap (y1.2.2.2 + 1)), (decide (¬ (y1.2.2.1 = true))), (IntKind.i64.wrap (y1.2.2.2 + 1)))))) ∧
                      (¬ ((a0.size : Int) ≤ y1.2.2.2) →
                        0 ≤ y1.2.2.2 ∧
                        y1.2.2.2 < (a0.size : Int) ∧
                        ((bt a0 y1.2.2.2) = 44 →
                          (¬ (¬ (y1.2.2.1 = true)) →
                            0 ≤ y1.2.1 ∧
                            y1.2.1 ≤ (if (a0.size : Int) < y1.2.2.2 then (a0.size : Int) else y1.2.2.2) ∧
                            (if (a0.size : Int) < y1.2.2.2 then (a0.size : Int) else y1.2.2.2) ≤ (a0.size : Int) ∧
                            pTrim (a0.extract y1.2.1.toNat (if (a0.size : Int) < y1.2.2.2 then (a0.size : Int) else y1.2.2.2).toNat) ∧
                            ((mTrim (a0.extract y1.2.1.toNat (if (a0.size : Int) < y1.2.2.2 then (a0.size : Int) else y1.2.2.2).toNat)) ≠ (lit []) →
                              (y1.1.length + [(mTrim (a0.extract y1.2.1.toNat (if (a0.size : Int) < y1.2.2.2 then (a0.size : Int) else y1.2.2.2).toNat))].length) * 16 ≤ 140737488355328 ∧
                              (L0 ((y1.1 ++ [(mTrim (a0.extract y1.2.1.toNat (if (a0.size : Int) < y1.2.2.2 then (a0.size : Int) else y1.2.2.2).toNat))]), (IntKind.i64.wrap (y1.2.2.2 + 1)), (decide (¬ (y1.2.2.1 = true))), (IntKind.i64.wrap (y1.2.2.2 + 1))))) ∧
                            (¬ ((mTrim (a0.extract y1.2.1.toNat (if (a0.size : Int) < y1.2.2.2 then (a0.size : Int) else y1.2.2.2).toNat)) ≠ (lit [])) →
                              (L0 (y1.1, (IntKind.i64.wrap (y1.2.2.2 + 1)), (decide (¬ (y1.2.2.1 = true))), (IntKind.i64.wrap (y1.2.2.2 + 1)))))) ∧
                          (¬ (¬ (¬ (y1.2.2.1 = true))) →
                            (L0 (y1.1, y1.2.1, (decide (¬ (y1.2.2.1 = true))), (IntKind.i64.wrap (y1.2.2.2 + 1)))))) ∧
                        (¬ ((bt a0 y1.2.2.2) = 44) →
                          (L0 (y1.1, y1.2.1, (decide (¬ (y1.2.2.1 = true))), (IntKind.i64.wrap (y1.2.2.2 + 1)))))))) ∧
                  (¬ ((bt a0 y1.2.2.2) = 34) →
                    (y1.2.2.2 < (a0.size : Int) →
                      (y1.2.2.1 = true →
                        0 ≤ y1.2.2.2 ∧
                        y1.2.2.2 < (a0.size : Int) ∧
                        ((bt a0 y1.2.2.2) = 92 →
                          (L0 (y1.1, y1.2.1, y1.2.2.1, (IntKind.i64.wrap ((IntKind.i64.wrap (y1.2.2.2 + 1)) + 1))))) ∧
                        (¬ ((bt a0 y1.2.2.2) = 92) →
                          ((a0.size : Int) ≤ y1.2.2.2 →
                            0 ≤ y1.2.1 ∧
                            y1.2.1 ≤ (if (a0.size : Int) < y1.2.2.2 then (a0.size : Int) else y1.2.2.2) ∧
                            (if (a0.size : Int) < y1.2.2.2 then (a0.size : Int) else y1.2.2.2) ≤ (a0.size : Int) ∧
                            pTrim (a0.extract y1.2.1.toNat (if (a0.size : Int) < y1.2.2.2 then (a0.size : Int) else y1.2.2.2).toNat) ∧
                            ((mTrim (a0.extract y1.2.1.toNat (if (a0.size : Int) < y1.2.2.2 then (a0.size : Int) else y1.2.2.2).toNat)) ≠ (lit []) →
                              (y1.1.length + [(mTrim (a0.extract y1.2.1.toNat (if (a0.size : Int) < y1.2.2.2 then (a0.size : Int) else y1.2.2.2).toNat))].length) * 16 ≤ 140737488355328 ∧
                              (L0 ((y1.1 ++ [(mTrim (a0.extract y1.2.1.toNat (if (a0.size : Int) < y1.2.2.2 then (a0.size : Int) else y1.2.2.2).toNat))]), (IntKind.i64.wrap (y1.2.2.2 + 1)), y1.2.2.1, (IntKind.i64.wrap (y1.2.2.2 + 1))))) ∧
                            (¬ ((mTrim (a0.extract y1.2.1.toNat (if (a0.size : Int) < y1.2.2.2 then (a0.size : Int) else y1.2.2.2).toNat)) ≠ (lit [])) →
                              (L0 (y1.1, (IntKind.i64.wrap (y1.2.2.2 + 1)), y1.2.2.1, (IntKind.i64.wrap (y1.2.2.2 + 1)))))) ∧
                          (¬ ((a0.size : Int) ≤ y1.2.2.2) →
                            0 ≤ y1.2.2.2 ∧
                            y1.2.2.2 < (a0.size : Int) ∧
                            ((bt a0 y1.2.2.2) = 44 →
                              (¬ (y1.2.2.1 = true) →
                                0 ≤ y1.2.1 ∧
                                y1.2.1 ≤ (if (a0.size : Int) < y1.2.2.2 then (a0.size : Int) else y1.2.2.2) ∧
                                (if (a0.size : Int) < y1.2.2.2 then (a0.size : Int) else y1.2.2.2) ≤ (a0.size : Int) ∧
                                pTrim (a0.extract y1.2.1.toNat (if (a0.size : Int) < y1.2.2.2 then (a0.size : Int) else y1.2.2.2).toNat) ∧
                                ((mTrim (a0.extract y1.2.1.toNat (if (a0.size : Int) < y1.2.2.2 then (a0.size : Int) else y1.2.2.2).toNat)) ≠ (lit []) →
                                  (y1.1.length + [(mTrim (a0.extract y1.2.1.toNat (if (a0.size : Int) < y1.2.2.2 then (a0.size : Int) else y1.2.2.2).toNat))].length) * 16 ≤ 140737488355328 ∧
                                  (L0 ((y1.1 ++ [(mTrim (a0.extract y1.2.1.toNat (if (a0.size : Int) < y1.2.2.2 then (a0.size : Int) else y1.2.2.2).toNat))]), (IntKind.i64.wrap (y1.2.2.2 + 1)), y1.2.2.1, (IntKind.i64.wrap (y1.2.2.2 + 1))))) ∧
                                (¬ ((mTrim (a0.extract y1.2.1.toNat (if (a0.size : Int) < y1.2.2.2 then (a0.size : Int) else y1.2.2.2).toNat)) ≠ (lit [])) →
                                  (L0 (y1.1, (IntKind.i64.wrap (y1.2.2.2 + 1)), y1.2.2.1, (IntKind.i64.wrap (y1.2.2.2 + 1)))))) ∧
                              (¬ (¬ (y1.2.2.1 = true)) →
                                (L0 (y1.1, y1.2.1, y1.2.2.1, (IntKind.i64.wrap (y1.2.2.2 + 1)))))) ∧
                            (¬ ((bt a0 y1.2.2.2) = 44) →
                              (L0 (y1.1, y1.2.1, y1.2.2.1, (IntKind.i64.wrap (y1.2.2.2 + 1)))))))) ∧
                      (¬ (y1.2.2.1 = true) →
                        ((a0.size : Int) ≤ y1.2.2.2 →
                          0 ≤ y1.2.1 ∧
                          y1.2.1 ≤ (if (a0.size : Int) < y1.2.2.2 then (a0.size : Int) else y1.2.2.2) ∧
                          (if (a0.size : Int) < y1.2.2.2 then (a0.size : Int) else y1.2.2.2) ≤ (a0.size : Int) ∧
                          pTrim (a0.extract y1.2.1.toNat (if (a0.size : Int) < y1.2.2.2 then (a0.size : Int) else y1.2.2.2).toNat) ∧
                          ((mTrim (a0.extract y1.2.1.toNat (if (a0.size : Int) < y1.2.2.2 then (a0.size : Int) else y1.2.2.2).toNat)) ≠ (lit []) →
                            (y1.1.length + [(mTrim (a0.extract y1.2.1.toNat (if (a0.size : Int) < y1.2.2.2 then (a0.size : Int) else y1.2.2.2).toNat))].length) * 16 ≤ 140737488355328 ∧
                            (L0 ((y1.1 ++ [(mTrim (a0.extract y1.2.1.toNat (if (a0.size : Int) < y1.2.2.2 then (a0.size : Int) else y1.2.2.2).toNat))]), (IntKind.i64.wrap (y1.2.2.2 + 1)), y1.2.2.1, (IntKind.i64.wrap (y1.2.2.2 + 1))))) ∧
                          (¬ ((mTrim (a0.extract y1.2.1.toNat (if (a0.size : Int) < y1.2.2.2 then (a0.size : Int) else y1.2.2.2).toNat)) ≠ (lit [])) →
                            (L0 (y1.1, (IntKind.i64.wrap (y1.2.2.2 + 1)), y1.2.2.1, (IntKind.i64.wrap (y1.2.2.2 + 1)))))) ∧
                        (¬ ((a0.size : Int) ≤ y1.2.2.2) →
                          0 ≤ y1.2.2.2 ∧
                          y1.2.2.2 < (a0.size : Int) ∧
                          ((bt a0 y1.2.2.2) = 44 →
                            (¬ (y1.2.2.1 = true) →
                              0 ≤ y1.2.1 ∧
                              y1.2.1 ≤ (if (a0.size : Int) < y1.2.2.2 then (a0.size : Int) else y1.2.2.2) ∧
                              (if (a0.size : Int) < y1.2.2.2 then (a0.size : Int) else y1.2.2.2) ≤ (a0.size : Int) ∧
                              pTrim (a0.extract y1.2.1.toNat (if (a0.size : Int) < y1.2.2.2 then (a0.size : Int) else y1.2.2.2).toNat) ∧
                              ((mTrim (a0.extract y1.2.1.toNat (if (a0.size : Int) < y1.2.2.2 then (a0.size : Int) else y1.2.2.2).toNat)) ≠ (lit []) →
                                (y1.1.length + [(mTrim (a0.extract y1.2.1.toNat (if (a0.size : Int) < y1.2.2.2 then (a0.size : Int) else y1.2.2.2).toNat))].length) * 16 ≤ 140737488355328 ∧
                                (L0 ((y1.1 ++ [(mTrim (a0.extract y1.2.1.toNat (if (a0.size : Int) < y1.2.2.2 then (a0.size : Int) else y1.2.2.2).toNat))]), (IntKind.i64.wrap (y1.2.2.2 + 1)), y1.2.2.1, (IntKind.i64.wrap (y1.2.2.2 + 1))))) ∧
                              (¬ ((mTrim (a0.extract y1.2.1.toNat (if (a0.size : Int) < y1.2.2.2 then (a0.size : Int) else y1.2.2.2).toNat)) ≠ (lit [])) →
                                (L0 (y1.1, (IntKind.i64.wrap (y1.2.2.2 + 1)), y1.2.2.1, (IntKind.i64.wrap (y1.2.2.2 + 1)))))) ∧
                            (¬ (¬ (y1.2.2.1 = true)) →
                              (L0 (y1.1, y1.2.1, y1.2.2.1, (IntKind.i64.wrap (y1.2.2.2 + 1)))))) ∧
                          (¬ ((bt a0 y1.2.2.2) = 44) →
                            (L0 (y1.1, y1.2.1, y1.2.2.1, (IntKind.i64.wrap (y1.2.2.2 + 1)))))))) ∧
                    (¬ (y1.2.2.2 < (a0.size : Int)) →
                      ((a0.size : Int) ≤ y1.2.2.2 →
                        0 ≤ y1.2.1 ∧
                        y1.2.1 ≤ (if (a0.size : Int) < y1.2.2.2 then (a0.size : Int) else y1.2.2.2) ∧
                        (if (a0.size : Int) < y1.2.2.2 then (a0.size : Int) else y1.2.2.2) ≤ (a0.size : Int) ∧
                        pTrim (a0.extract y1.2.1.toNat (if (a0.size : Int) < y1.2.2.2 then (a0.size : Int) else y1.2.2.2).toNat) ∧
                        ((mTrim (a0.extract y1.2.1.toNat (if (a0.size : Int) < y1.2.2.2 then (a0.size : Int) else y1.2.2.2).toNat)) ≠ (lit []) →
                          (y1.1.length + [(mTrim (a0.extract y1.2.1.toNat (if (a0.size : Int) < y1.2.2.2 then (a0.size : Int) else y1.2.2.2).toNat))].length) * 16 ≤ 140737488355328 ∧
                          (L0 ((y1.1 ++ [(mTrim (a0.extract y1.2.1.toNat (if (a0.size : Int) < y1.2.2.2 then (a0.size : Int) else y1.2.2.2).toNat))]), (IntKind.i64.wrap (y1.2.2.2 + 1)), y1.2.2.1, (IntKind.i64.wrap (y1.2.2.2 + 1))))) ∧
                        (¬ ((mTrim (a0.extract y1.2.1.toNat (if (a0.size : Int) < y1.2.2.2 then (a0.size : Int) else y1.2.2.2).toNat)) ≠ (lit [])) →
                          (L0 (y1.1, (IntKind.i64.wrap (y1.2.2.2 + 1)), y1.2.2.1, (IntKind.i64.wrap (y1.2.2.2 + 1)))))) ∧
                      (¬ ((a0.size : Int) ≤ y1.2.2.2) →
                        0 ≤ y1.2.2.2 ∧
                        y1.2.2.2 < (a0.size : Int) ∧
                        ((bt a0 y1.2.2.2) = 44 →
                          (¬ (y1.2.2.1 = true) →
                            0 ≤ y1.2.1 ∧
                            y1.2.1 ≤ (if (a0.size : Int) < y1.2.2.2 then (a0.size : Int) else y1.2.2.2) ∧
                            (if (a0.size : Int) < y1.2.2.2 then (a0.size : Int) else y1.2.2.2) ≤ (a0.size : Int) ∧
                            pTrim (a0.extract y1.2.1.toNat (if (a0.size : Int) < y1.2.2.2 then (a0.size : Int) else y1.2.2.2).toNat) ∧
                            ((mTrim (a0.extract y1.2.1.toNat (if (a0.size : Int) < y1.2.2.2 then (a0.size : Int) else y1.2.2.2).toNat)) ≠ (lit []) →
                              (y1.1.length + [(mTrim (a0.extract y1.2.1.toNat (if (a0.size : Int) < y1.2.2.2 then (a0.size : Int) else y1.2.2.2).toNat))].length) * 16 ≤ 140737488355328 ∧
                              (L0 ((y1.1 ++ [(mTrim (a0.extract y1.2.1.toNat (if (a0.size : Int) < y1.2.2.2 then (a0.size : Int) else y1.2.2.2).toNat))]), (IntKind.i64.wrap (y1.2.2.2 + 1)), y1.2.2.1, (IntKind.i64.wrap (y1.2.2.2 + 1))))) ∧
                            (¬ ((mTrim (a0.extract y1.2.1.toNat (if (a0.size : Int) < y1.2.2.2 then (a0.size : Int) else y1.2.2.2).toNat)) ≠ (lit [])) →
                              (L0 (y1.1, (IntKind.i64.wrap (y1.2.2.2 + 1)), y1.2.2.1, (IntKind.i64.wrap (y1.2.2.2 + 1)))))) ∧
                          (¬ (¬ (y1.2.2.1 = true)) →
                            (L0 (y1.1, y1.2.1, y1.2.2.1, (IntKind.i64.wrap (y1.2.2.2 + 1)))))) ∧
                        (¬ ((bt a0 y1.2.2.2) = 44) →
                          (L0 (y1.1, y1.2.1, y1.2.2.1, (IntKind.i64.wrap (y1.2.2.2 + 1))))))))) ∧
                (¬ (y1.2.2.2 < (a0.size : Int)) →
                  (y1.2.2.2 < (a0.size : Int) →
                    (y1.2.2.1 = true →
                      0 ≤ y1.2.2.2 ∧
                      y1.2.2.2 < (a0.size : Int) ∧
                      ((bt a0 y1.2.2.2) = 92 →
                        (L0 (y1.1, y1.2.1, y1.2.2.1, (IntKind.i64.wrap ((IntKind.i64.wrap (y1.2.2.2 + 1)) + 1))))) ∧
                      (¬ ((bt a0 y1.2.2.2) = 92) →
                        ((a0.size : Int) ≤ y1.2.2.2 →
                          0 ≤ y1.2.1 ∧
                          y1.2.1 ≤ (if (a0.size : Int) < y1.2.2.2 then (a0.size : Int) else y1.2.2.2) ∧
                          (if (a0.size : Int) < y1.2.2.2 then (a0.size : Int) else y1.2.2.2) ≤ (a0.size : Int) ∧
                          pTrim (a0.extract y1.2.1.toNat (if (a0.size : Int) < y1.2.2.2 then (a0.size : Int) else y1.2.2.2).toNat) ∧
                          ((mTrim (a0.extract y1.2.1.toNat (if (a0.size : Int) < y1.2.2.2 then (a0.size : Int) else y1.2.2.2).toNat)) ≠ (lit []) →
                            (y1.1.length + [(mTrim (a0.extract y1.2.1.toNat (if (a0.size : Int) < y1.2.2.2 then (a0.size : Int) else y1.2.2.2).toNat))].length) * 16 ≤ 140737488355328 ∧
                            (L0 ((y1.1 ++ [(mTrim (a0.extract y1.2.1.toNat (if (a0.size : Int) < y1.2.2.2 then (a0.size : Int) else y1.2.2.2).toNat))]), (IntKind.i64.wrap (y1.2.2.2 + 1)), y1.2.2.1, (IntKind.i64.wrap (y1.2.2.2 + 1))))) ∧
                          (¬ ((mTrim (a0.extract y1.2.1.toNat (if (a0.size : Int) < y1.2.2.2 then (a0.size : Int) else y1.2.2.2).toNat)) ≠ (lit [])) →
                            (L0 (y1.1, (IntKind.i64.wrap (y1.2.2.2 + 1)), y1.2.2.1, (IntKind.i64.wrap (y1.2.2.2 + 1)))))) ∧
                        (¬ ((a0.size : Int) ≤ y1.2.2.2) →
                          0 ≤ y1.2.2.2 ∧
                          y1.2.2.2 < (a0.size : Int) ∧
                          ((bt a0 y1.2.2.2) = 44 →
                            (¬ (y1.2.2.1 = true) →
                              0 ≤ y1.2.1 ∧
                              y1.2.1 ≤ (if (a0.size : Int) < y1.2.2.2 then (a0.size : Int) else y1.2.2.2) ∧
                              (if (a0.size : Int) < y1.2.2.2 then (a0.size : Int) else y1.2.2.2) ≤ (a0.size : Int) ∧
                              pTrim (a0.extract y1.2.1.toNat (if (a0.size : Int) < y1.2.2.2 then (a0.size : Int) else y1.2.2.2).toNat) ∧
                              ((mTrim (a0.extract y1.2.1.toNat (if (a0.size : Int) < y1.2.2.2 then (a0.size : Int) else y1.2.2.2).toNat)) ≠ (lit []) →
                                (y1.1.length + [(mTrim (a0.extract y1.2.1.toNat (if (a0.size : Int) < y1.2.2.2 then (a0.size : Int) else y1.2.2.2).toNat))].length) * 16 ≤ 140737488355328 ∧
                                (L0 ((y1.1 ++ [(mTrim (a0.extract y1.2.1.toNat (if (a0.size : Int) < y1.2.2.2 then (a0.size : Int) else y1.2.2.2).toNat))]), (IntKind.i64.wrap (y1.2.2.2 + 1)), y1.2.2.1, (IntKind.i64.wrap (y1.2.2.2 + 1))))) ∧
                              (¬ ((mTrim (a0.extract y1.2.1.toNat (if (a0.size : Int) < y1.2.2.2 then (a0.size : Int) else y1.2.2.2).toNat)) ≠ (lit [])) →
                                (L0 (y1.1, (IntKind.i64.wrap (y1.2.2.2 + 1)), y1.2.2.1, (IntKind.i64.wrap (y1.2.2.2 + 1)))))) ∧
                            (¬ (¬ (y1.2.2.1 = true)) →
                              (L0 (y1.1, y1.2.1, y1.2.2.1, (IntKind.i64.wrap (y1.2.2.2 + 1)))))) ∧
                          (¬ ((bt a0 y1.2.2.2) = 44) →
                            (L0 (y1.1, y1.2.1, y1.2.2.1, (IntKind.i64.wrap (y1.2.2.2 + 1)))))))) ∧
                    (¬ (y1.2.2.1 = true) →
                      ((a0.size : Int) ≤ y1.2.2.2 →
                        0 ≤ y1.2.1 ∧
                        y1.2.1 ≤ (if (a0.size : Int) < y1.2.2.2 then (a0.size : Int) else y1.2.2.2) ∧
                        (if (a0.size : Int) < y1.2.2.2 then (a0.size : Int) else y1.2.2.2) ≤ (a0.size : Int) ∧
                        pTrim (a0.extract y1.2.1.toNat (if (a0.size : Int) < y1.2.2.2 then (a0.size : Int) else y1.2.2.2).toNat) ∧
                        ((mTrim (a0.extract y1.2.1.toNat (if (a0.size : Int) < y1.2.2.2 then (a0.size : Int) else y1.2.2.2).toNat)) ≠ (lit []) →
                          (y1.1.length + [(mTrim (a0.extract y1.2.1.toNat (if (a0.size : Int) < y1.2.2.2 then (a0.size : Int) else y1.2.2.2).toNat))].length) * 16 ≤ 140737488355328 ∧
                          (L0 ((y1.1 ++ [(mTrim (a0.extract y1.2.1.toNat (if (a0.size : Int) < y1.2.2.2 then (a0.size : Int) else y1.2.2.2).toNat))]), (IntKind.i64.wrap (y1.2.2.2 + 1)), y1.2.2.1, (IntKind.i64.wrap (y1.2.2.2 + 1))))) ∧
                        (¬ ((mTrim (a0.extract y1.2.1.toNat (if (a0.size : Int) < y1.2.2.2 then (a0.size : Int) else y1.2.2.2).toNat)) ≠ (lit [])) →
                          (L0 (y1.1, (IntKind.i64.wrap (y1.2.2.2 + 1)), y1.2.2.1, (IntKind.i64.wrap (y1.2.2.2 + 1)))))) ∧
                      (¬ ((a0.size : Int) ≤ y1.2.2.2) →
                        0 ≤ y1.2.2.2 ∧
                        y1.2.2.2 < (a0.size : Int) ∧
                        ((bt a0 y1.2.2.2) = 44 →
                          (¬ (y1.2.2.1 = true) →
                            0 ≤ y1.2.1 ∧
                            y1.2.1 ≤ (if (a0.size : Int) < y1.2.2.2 then (a0.size : Int) else y1.2.2.2) ∧
                            (if (a0.size : Int) < y1.2.2.2 then (a0.size : Int) else y1.2.2.2) ≤ (a0.size : Int) ∧
                            pTrim (a0.extract y1.2.1.toNat (if (a0.size : Int) < y1.2.2.2 then (a0.size : Int) else y1.2.2.2).toNat) ∧
                            ((mTrim (a0.extract y1.2.1.toNat (if (a0.size : Int) < y1.2.2.2 then (a0.size : Int) else y1.2.2.2).toNat)) ≠ (lit []) →
                              (y1.1.length + [(mTrim (a0.extract y1.2.1.toNat (if (a0.size : Int) < y1.2.2.2 then (a0.size : Int) else y1.2.2.2).toNat))].length) * 16 ≤ 140737488355328 ∧
                              (L0 ((y1.1 ++ [(mTrim (a0.extract y1.2.1.toNat (if (a0.size : Int) < y1.2.2.2 then (a0.size : Int) else y1.2.2.2).toNat))]), (IntKind.i64.wrap (y1.2.2.2 + 1)), y1.2.2.1, (IntKind.i64.wrap (y1.2.2.2 + 1))))) ∧
                            (¬ ((mTrim (a0.extract y1.2.1.toNat (if (a0.size : Int) < y1.2.2.2 then (a0.size : Int) else y1.2.2.2).toNat)) ≠ (lit [])) →
                              (L0 (y1.1, (IntKind.i64.wrap (y1.2.2.2 + 1)), y1.2.2.1, (IntKind.i64.wrap (y1.2.2.2 + 1)))))) ∧
                          (¬ (¬ (y1.2.2.1 = true)) →
                            (L0 (y1.1, y1.2.1, y1.2.2.1, (IntKind.i64.wrap (y1.2.2.2 + 1)))))) ∧
                        (¬ ((bt a0 y1.2.2.2) = 44) →
                          (L0 (y1.1, y1.2.1, y1.2.2.1, (IntKind.i64.wrap (y1.2.2.2 + 1)))))))) ∧
                  (¬ (y1.2.2.2 < (a0.size : Int)) →
                    ((a0.size : Int) ≤ y1.2.2.2 →
                      0 ≤ y1.2.1 ∧
                      y1.2.1 ≤ (if (a0.size : Int) < y1.2.2.2 then (a0.size : Int) else y1.2.2.2) ∧
                      (if (a0.size : Int) < y1.2.2.2 then (a0.size : Int) else y1.2.2.2) ≤ (a0.size : Int) ∧
                      pTrim (a0.extract y1.2.1.toNat (if (a0.size : Int) < y1.2.2.2 then (a0.size : Int) else y1.2.2.2).toNat) ∧
                      ((mTrim (a0.extract y1.2.1.toNat (if (a0.size : Int) < y1.2.2.2 then (a0.size : Int) else y1.2.2.2).toNat)) ≠ (lit []) →
                        (y1.1.length + [(mTrim (a0.extract y1.2.1.toNat (if (a0.size : Int) < y1.2.2.2 then (a0.size : Int) else y1.2.2.2).toNat))].length) * 16 ≤ 140737488355328 ∧
                        (L0 ((y1.1 ++ [(mTrim (a0.extract y1.2.1.toNat (if (a0.size : Int) < y1.2.2.2 then (a0.size : Int) else y1.2.2.2).toNat))]), (IntKind.i64.wrap (y1.2.2.2 + 1)), y1.2.2.1, (IntKind.i64.wrap (y1.2.2.2 + 1))))) ∧
                      (¬ ((mTrim (a0.extract y1.2.1.toNat (if (a0.size : Int) < y1.2.2.2 then (a0.size : Int) else y1.2.2.2).toNat)) ≠ (lit [])) →
                        (L0 (y1.1, (IntKind.i64.wrap (y1.2.2.2 + 1)), y1.2.2.1, (IntKind.i64.wrap (y1.2.2.2 + 1)))))) ∧
                    (¬ ((a0.size : Int) ≤ y1.2.2.2) →
                      0 ≤ y1.2.2.2 ∧
                      y1.2.2.2 < (a0.size : Int) ∧
                      ((bt a0 y1.2.2.2) = 44 →
                        (¬ (y1.2.2.1 = true) →
                          0 ≤ y1.2.1 ∧
                          y1.2.1 ≤ (if (a0.size : Int) < y1.2.2.2 then (a0.size : Int) else y1.2.2.2) ∧
                          (if (a0.size : Int) < y1.2.2.2 then (a0.size : Int) else y1.2.2.2) ≤ (a0.size : Int) ∧
                          pTrim (a0.extract y1.2.1.toNat (if (a0.size : Int) < y1.2.2.2 then (a0.size : Int) else y1.2.2.2).toNat) ∧
                          ((mTrim (a0.extract y1.2.1.toNat (if (a0.size : Int) < y1.2.2.2 then (a0.size : Int) else y1.2.2.2).toNat)) ≠ (lit []) →
                            (y1.1.length + [(mTrim (a0.extract y1.2.1.toNat (if (a0.size : Int) < y1.2.2.2 then (a0.size : Int) else y1.2.2.2).toNat))].length) * 16 ≤ 140737488355328 ∧
                            (L0 ((y1.1 ++ [(mTrim (a0.extract y1.2.1.toNat (if (a0.size : Int) < y1.2.2.2 then (a0.size : Int) else y1.2.2.2).toNat))]), (IntKind.i64.wrap (y1.2.2.2 + 1)), y1.2.2.1, (IntKind.i64.wrap (y1.2.2.2 + 1))))) ∧
                          (¬ ((mTrim (a0.extract y1.2.1.toNat (if (a0.size : Int) < y1.2.2.2 then (a0.size : Int) else y1.2.2.2).toNat)) ≠ (lit [])) →
                            (L0 (y1.1, (IntKind.i64.wrap (y1.2.2.2 + 1)), y1.2.2.1, (IntKind.i64.wrap (y1.2.2.2 + 1)))))) ∧
                        (¬ (¬ (y1.2.2.1 = true)) →
                          (L0 (y1.1, y1.2.1, y1.2.2.1, (IntKind.i64.wrap (y1.2.2.2 + 1)))))) ∧
                      (¬ ((bt a0 y1.2.2.2) = 44) →
                        (L0 (y1.1, y1.2.1, y1.2.2.1, (IntKind.i64.wrap (y1.2.2.2 + 1))))))))) ∧
              (¬ (y1.2.2.2 ≤ (a0.size : Int)) →
                (y1.2.1 < (a0.size : Int) →
                  (y1.2.2.1 = true →
                    0 ≤ y1.2.1 ∧
                    y1.2.1 ≤ (a0.size : Int) ∧
                    pTrim (a0.extract y1.2.1.toNat a0.size) ∧
                    ((mTrim (a0.extract y1.2.1.toNat a0.size)) ≠ (lit []) →
                      (y1.1.length + [(mTrim (a0.extract y1.2.1.toNat a0.size))].length) * 16 ≤ 140737488355328 ∧
                      (Q (y1.1 ++ [(mTrim (a0.extract y1.2.1.toNat a0.size))]))) ∧
                    (¬ ((mTrim (a0.extract y1.2.1.toNat a0.size)) ≠ (lit [])) →
                      (Q y1.1))) ∧
                  (¬ (y1.2.2.1 = true) →
                    (Q y1.1))) ∧
                (¬ (y1.2.1 < (a0.size : Int)) →
                  (Q y1.1)))
            ) →
            (L0 y1)))
      ) →
      (L0 ([], 0, false, 0))))

def s_spec_StoredOk (a0 : Sto) (Q : (Bool → Prop)) : Prop :=
  pUriOk a0.1 ∧
  ((mUriOk a0.1) = true →
    pResponseOk (a0.2.2.1, a0.2.2.2.1, a0.2.2.2.2.1) ∧
    ((mResponseOk (a0.2.2.1, a0.2.2.2.1, a0.2.2.2.2.1)) = true →
      pIn a0.2.2.2.2.2.1 0 2000000000 ∧
      ((mIn a0.2.2.2.2.2.1 0 2000000000) = true →
        pIn a0.2.2.2.2.2.2 a0.2.2.2.2.2.1 2000000000 ∧
        ((mIn a0.2.2.2.2.2.2 a0.2.2.2.2.2.1 2000000000) = true →
          (Q (decide ((a0.2.1.length : Int) ≤ 12)))) ∧
        (¬ ((mIn a0.2.2.2.2.2.2 a0.2.2.2.2.2.1 2000000000) = true) →
          (Q false))) ∧
      (¬ ((mIn a0.2.2.2.2.2.1 0 2000000000) = true) →
        (Q false))) ∧
    (¬ ((mResponseOk (a0.2.2.1, a0.2.2.2.1, a0.2.2.2.2.1)) = true) →
      (Q false))) ∧
  (¬ ((mUriOk a0.1) = true) →
    (Q false))

def s_spec_Trim (a0 : S) (Q : (S → Prop)) : Prop :=
  (∀ L0 : (S → Prop),
    ((
        (∀ y1 : S,
          ((
              (0 < (y1.size : Int) →
                (0 : Int) ≤ 0 ∧
                0 < (y1.size : Int) ∧
                pBlank (bt y1 0) ∧
                ((mBlank (bt y1 0)) = true →
                  (0 : Int) ≤ 1 ∧
                  1 ≤ (y1.size : Int) ∧
                  (L0 (y1.extract ((1 : Int).toNat) y1.size))) ∧
                (¬ ((mBlank (bt y1 0)) = true) →
                  (∀ L2 : (S → Prop),
                    ((
                        (∀ y3 : S,
                          ((
                              (0 < (y3.size : Int) →
                                0 ≤ (IntKind.i64.wrap ((y3.size : Int) - 1)) ∧
                                (IntKind.i64.wrap ((y3.size : Int) - 1)) < (y3.size : Int) ∧
                                pBlank (bt y3 (IntKind.i64.wrap ((y3.size : Int) - 1))) ∧
                                ((mBlank (bt y3 (IntKind.i64.wrap ((y3.size : Int) - 1)))) = true →
                                  0 ≤ (IntKind.i64.wrap ((y3.size : Int) - 1)) ∧
                                  (IntKind.i64.wrap ((y3.size : Int) - 1)) ≤ (y3.size : Int) ∧
                                  (L2 (y3.extract 0 (IntKind.i64.wrap ((y3.size : Int) - 1)).toNat))) ∧
                                (¬ ((mBlank (bt y3 (IntKind.i64.wrap ((y3.size : Int) - 1)))) = true) →
                                  (Q y3))) ∧
                              (¬ (0 < (y3.size : Int)) →
                                (Q y3))
                            ) →
                            (L2 y3)))
                      ) →
                      (L2 y1))))) ∧
              (¬ (0 < (y1.size : Int)) →
                (∀ L4 : (S → Prop),
                  ((
                      (∀ y5 : S,
                        ((
                            (0 < (y5.size : Int) →
                              0 ≤ (IntKind.i64.wrap ((y5.size : Int) - 1)) ∧
                              (IntKind.i64.wrap ((y5.size : Int) - 1)) < (y5.size : Int) ∧
                              pBlank (bt y5 (IntKind.i64.wrap ((y5.size : Int) - 1))) ∧
                              ((mBlank (bt y5 (IntKind.i64.wrap ((y5.size : Int) - 1)))) = true →
                                0 ≤ (IntKind.i64.wrap ((y5.size : Int) - 1)) ∧
                                (IntKind.i64.wrap ((y5.size : Int) - 1)) ≤ (y5.size : Int) ∧
                                (L4 (y5.extract 0 (IntKind.i64.wrap ((y5.size : Int) - 1)).toNat))) ∧
                              (¬ ((mBlank (bt y5 (IntKind.i64.wrap ((y5.size : Int) - 1)))) = true) →
                                (Q y5))) ∧
                            (¬ (0 < (y5.size : Int)) →
                              (Q y5))
                          ) →
                          (L4 y5)))
                    ) →
                    (L4 y1))))
            ) →
            (L0 y1)))
      ) →
      (L0 a0)))

def s_spec_UriOk (a0 : S) (Q : (Bool → Prop)) : Prop :=
  (∀ L0 : (Int → Prop),
    ((
        (∀ y1 : Int,
          ((
              (y1 < (a0.size : Int) →
                0 ≤ y1 ∧
                y1 < (a0.size : Int) ∧
                ((bt a0 y1) ≤ 32 →
                  (Q false)) ∧
                (¬ ((bt a0 y1) ≤ 32) →
                  0 ≤ y1 ∧
                  y1 < (a0.size : Int) ∧
                  (127 ≤ (bt a0 y1) →
                    (Q false)) ∧
                  (¬ (127 ≤ (bt a0 y1)) →
                    (L0 (IntKind.i64.wrap (y1 + 1)))))) ∧
              (¬ (y1 < (a0.size : Int)) →
                pIn (a0.size : Int) 1 20 ∧
                ((mIn (a0.size : Int) 1 20) = true →
                  (0 : Int) ≤ 0 ∧
                  0 < (a0.size : Int) ∧
                  (Q (decide ((bt a0 0) = 47)))) ∧
                (¬ ((mIn (a0.size : Int) 1 20) = true) →
                  (Q false)))
            ) →
            (L0 y1)))
      ) →
      (L0 0)))

def s_spec_VaryFits (a0 : Req) (a1 : Rsp) (a2 : (List Fld)) (Q : (Bool → Prop)) : Prop :=
  pPicked a0 a1 ∧
  pSameFields (mPicked a0 a1) a2 ∧
  (Q (mSameFields (mPicked a0 a1) a2))

def s_spec_VaryNames (a0 : Rsp) (Q : ((List S) → Prop)) : Prop :=
  pFieldGet a0.2.1 (lit [118, 97, 114, 121]) ∧
  pSplitList (mFieldGet a0.2.1 (lit [118, 97, 114, 121])).1 ∧
  (∀ L0 : (((List S) × Int) → Prop),
    ((
        (∀ y1 : ((List S) × Int),
          ((
              (y1.2 < ((mSplitList (mFieldGet a0.2.1 (lit [118, 97, 114, 121])).1).length : Int) →
                0 ≤ y1.2 ∧
                y1.2 < ((mSplitList (mFieldGet a0.2.1 (lit [118, 97, 114, 121])).1).length : Int) ∧
                pLower (rx (mSplitList (mFieldGet a0.2.1 (lit [118, 97, 114, 121])).1) y1.2) ∧
                (∀ L2 : ((Bool × Int) → Prop),
                  ((
                      (∀ y3 : (Bool × Int),
                        ((
                            (y3.2 < (y1.1.length : Int) →
                              (y3.1 = true →
                                (L2 (true, (IntKind.i64.wrap (y3.2 + 1))))) ∧
                              (¬ (y3.1 = true) →
                                0 ≤ y3.2 ∧
                                y3.2 < (y1.1.length : Int) ∧
                                (L2 ((decide ((rx y1.1 y3.2) = (mLower (rx (mSplitList (mFieldGet a0.2.1 (lit [118, 97, 114, 121])).1) y1.2)))), (IntKind.i64.wrap (y3.2 + 1)))))) ∧
                            (¬ (y3.2 < (y1.1.length : Int)) →
                              (¬ (y3.1 = true) →
                                (y1.1.length + [(mLower (rx (mSplitList (mFieldGet a0.2.1 (lit [118, 97, 114, 121])).1) y1.2))].length) * 16 ≤ 140737488355328 ∧
                                (L0 ((y1.1 ++ [(mLower (rx (mSplitList (mFieldGet a0.2.1 (lit [118, 97, 114, 121])).1) y1.2))]), (IntKind.i64.wrap (y1.2 + 1))))) ∧
                              (¬ (¬ (y3.1 = true)) →
                                (L0 (y1.1, (IntKind.i64.wrap (y1.2 + 1))))))
                          ) →
                          (L2 y3)))
                    ) →
                    (L2 (false, 0))))) ∧
              (¬ (y1.2 < ((mSplitList (mFieldGet a0.2.1 (lit [118, 97, 114, 121])).1).length : Int)) →
                (Q y1.1))
            ) →
            (L0 y1)))
      ) →
      (L0 ([], 0))))

def s_spec_l12Filled (a0 : Shd) (Q : (Int → Prop)) : Prop :=
  (∀ L0 : ((Int × Int) → Prop),
    ((
        (∀ y1 : (Int × Int),
          ((
              (y1.2 < (a0.2.2.1.length : Int) →
                0 ≤ y1.2 ∧
                y1.2 < (a0.2.2.1.length : Int) ∧
                (L0 ((IntKind.i64.wrap (y1.1 + ((rx a0.2.2.1 y1.2).2.2.2.2.1.size : Int))), (IntKind.i64.wrap (y1.2 + 1))))) ∧
              (¬ (y1.2 < (a0.2.2.1.length : Int)) →
                (Q y1.1))
            ) →
            (L0 y1)))
      ) →
      (L0 (0, 0))))

def s_spec_l12Same (a0 : Sto) (a1 : Sto) (Q : (Bool → Prop)) : Prop :=
  (a0.1 = a1.1 →
    pSameFields a0.2.1 a1.2.1 ∧
    (Q (mSameFields a0.2.1 a1.2.1))) ∧
  (¬ (a0.1 = a1.1) →
    (Q false))

def s_spec_l1In (a0 : Int) (a1 : Int) (a2 : Int) (Q : (Bool → Prop)) : Prop :=
  (a1 ≤ a0 →
    (Q (decide (a0 ≤ a2)))) ∧
  (¬ (a1 ≤ a0) →
    (Q false))

def s_spec_l2Blank (a0 : Int) (Q : (Bool → Prop)) : Prop :=
  (a0 = 32 →
    (Q true)) ∧
  (¬ (a0 = 32) →
    (Q (decide (a0 = 9))))

def s_spec_l2Token (a0 : Int) (Q : (Bool → Prop)) : Prop :=
  (97 ≤ a0 →
    (a0 ≤ 122 →
      (Q true)) ∧
    (¬ (a0 ≤ 122) →
      (65 ≤ a0 →
        (a0 ≤ 90 →
          (Q true)) ∧
        (¬ (a0 ≤ 90) →
          (48 ≤ a0 →
            (a0 ≤ 57 →
              (Q true)) ∧
            (¬ (a0 ≤ 57) →
              (a0 = 33 →
                (Q true)) ∧
              (¬ (a0 = 33) →
                (a0 = 35 →
                  (Q true)) ∧
                (¬ (a0 = 35) →
                  (a0 = 36 →
                    (Q true)) ∧
                  (¬ (a0 = 36) →
                    (a0 = 37 →
                      (Q true)) ∧
                    (¬ (a0 = 37) →
                      (a0 = 38 →
                        (Q true)) ∧
                      (¬ (a0 = 38) →
                        (a0 = 39 →
                          (Q true)) ∧
                        (¬ (a0 = 39) →
                          (a0 = 42 →
                            (Q true)) ∧
                          (¬ (a0 = 42) →
                            (a0 = 43 →
                              (Q true)) ∧
                            (¬ (a0 = 43) →
                              (a0 = 45 →
                                (Q true)) ∧
                              (¬ (a0 = 45) →
                                (a0 = 46 →
                                  (Q true)) ∧
                                (¬ (a0 = 46) →
                                  (a0 = 94 →
                                    (Q true)) ∧
                                  (¬ (a0 = 94) →
                                    (a0 = 95 →
                                      (Q true)) ∧
                                    (¬ (a0 = 95) →
                                      (a0 = 96 →
                                        (Q true)) ∧
                                      (¬ (a0 = 96) →
                                        (a0 = 124 →
                                          (Q true)) ∧
                                        (¬ (a0 = 124) →
                                          (Q (decide (a0 = 126))))))))))))))))))) ∧
          (¬ (48 ≤ a0) →
            (a0 = 33 →
              (Q true)) ∧
            (¬ (a0 = 33) →
              (a0 = 35 →
                (Q true)) ∧
              (¬ (a0 = 35) →
                (a0 = 36 →
                  (Q true)) ∧
                (¬ (a0 = 36) →
                  (a0 = 37 →
                    (Q true)) ∧
                  (¬ (a0 = 37) →
                    (a0 = 38 →
                      (Q true)) ∧
                    (¬ (a0 = 38) →
                      (a0 = 39 →
                        (Q true)) ∧
                      (¬ (a0 = 39) →
                        (a0 = 42 →
                          (Q true)) ∧
                        (¬ (a0 = 42) →
                          (a0 = 43 →
                            (Q true)) ∧
                          (¬ (a0 = 43) →
                            (a0 = 45 →
                              (Q true)) ∧
                            (¬ (a0 = 45) →
                              (a0 = 46 →
                                (Q true)) ∧
                              (¬ (a0 = 46) →
                                (a0 = 94 →
                                  (Q true)) ∧
                                (¬ (a0 = 94) →
                                  (a0 = 95 →
                                    (Q true)) ∧
                                  (¬ (a0 = 95) →
                                    (a0 = 96 →
                                      (Q true)) ∧
                                    (¬ (a0 = 96) →
                                      (a0 = 124 →
                                        (Q true)) ∧
                                      (¬ (a0 = 124) →
                                        (Q (decide (a0 = 126)))))))))))))))))))) ∧
      (¬ (65 ≤ a0) →
        (48 ≤ a0 →
          (a0 ≤ 57 →
            (Q true)) ∧
          (¬ (a0 ≤ 57) →
            (a0 = 33 →
              (Q true)) ∧
            (¬ (a0 = 33) →
              (a0 = 35 →
                (Q true)) ∧
              (¬ (a0 = 35) →
                (a0 = 36 →
                  (Q true)) ∧
                (¬ (a0 = 36) →
                  (a0 = 37 →
                    (Q true)) ∧
                  (¬ (a0 = 37) →
                    (a0 = 38 →
                      (Q true)) ∧
                    (¬ (a0 = 38) →
                      (a0 = 39 →
                        (Q true)) ∧
                      (¬ (a0 = 39) →
                        (a0 = 42 →
                          (Q true)) ∧
                        (¬ (a0 = 42) →
                          (a0 = 43 →
                            (Q true)) ∧
                          (¬ (a0 = 43) →
                            (a0 = 45 →
                              (Q true)) ∧
                            (¬ (a0 = 45) →
                              (a0 = 46 →
                                (Q true)) ∧
                              (¬ (a0 = 46) →
                                (a0 = 94 →
                                  (Q true)) ∧
                                (¬ (a0 = 94) →
                                  (a0 = 95 →
                                    (Q true)) ∧
                                  (¬ (a0 = 95) →
                                    (a0 = 96 →
                                      (Q true)) ∧
                                    (¬ (a0 = 96) →
                                      (a0 = 124 →
                                        (Q true)) ∧
                                      (¬ (a0 = 124) →
                                        (Q (decide (a0 = 126))))))))))))))))))) ∧
        (¬ (48 ≤ a0) →
          (a0 = 33 →
            (Q true)) ∧
          (¬ (a0 = 33) →
            (a0 = 35 →
              (Q true)) ∧
            (¬ (a0 = 35) →
              (a0 = 36 →
                (Q true)) ∧
              (¬ (a0 = 36) →
                (a0 = 37 →
                  (Q true)) ∧
                (¬ (a0 = 37) →
                  (a0 = 38 →
                    (Q true)) ∧
                  (¬ (a0 = 38) →
                    (a0 = 39 →
                      (Q true)) ∧
                    (¬ (a0 = 39) →
                      (a0 = 42 →
                        (Q true)) ∧
                      (¬ (a0 = 42) →
                        (a0 = 43 →
                          (Q true)) ∧
                        (¬ (a0 = 43) →
                          (a0 = 45 →
                            (Q true)) ∧
                          (¬ (a0 = 45) →
                            (a0 = 46 →
                              (Q true)) ∧
                            (¬ (a0 = 46) →
                              (a0 = 94 →
                                (Q true)) ∧
                              (¬ (a0 = 94) →
                                (a0 = 95 →
                                  (Q true)) ∧
                                (¬ (a0 = 95) →
                                  (a0 = 96 →
                                    (Q true)) ∧
                                  (¬ (a0 = 96) →
                                    (a0 = 124 →
                                      (Q true)) ∧
                                    (¬ (a0 = 124) →
                                      (Q (decide (a0 = 126))))))))))))))))))))) ∧
  (¬ (97 ≤ a0) →
    (65 ≤ a0 →
      (a0 ≤ 90 →
        (Q true)) ∧
      (¬ (a0 ≤ 90) →
        (48 ≤ a0 →
          (a0 ≤ 57 →
            (Q true)) ∧
          (¬ (a0 ≤ 57) →
            (a0 = 33 →
              (Q true)) ∧
            (¬ (a0 = 33) →
              (a0 = 35 →
                (Q true)) ∧
              (¬ (a0 = 35) →
                (a0 = 36 →
                  (Q true)) ∧
                (¬ (a0 = 36) →
                  (a0 = 37 →
                    (Q true)) ∧
                  (¬ (a0 = 37) →
                    (a0 = 38 →
                      (Q true)) ∧
                    (¬ (a0 = 38) →
                      (a0 = 39 →
                        (Q true)) ∧
                      (¬ (a0 = 39) →
                        (a0 = 42 →
                          (Q true)) ∧
                        (¬ (a0 = 42) →
                          (a0 = 43 →
                            (Q true)) ∧
                          (¬ (a0 = 43) →
                            (a0 = 45 →
                              (Q true)) ∧
                            (¬ (a0 = 45) →
                              (a0 = 46 →
                                (Q true)) ∧
                              (¬ (a0 = 46) →
                                (a0 = 94 →
                                  (Q true)) ∧
                                (¬ (a0 = 94) →
                                  (a0 = 95 →
                                    (Q true)) ∧
                                  (¬ (a0 = 95) →
                                    (a0 = 96 →
                                      (Q true)) ∧
                                    (¬ (a0 = 96) →
                                      (a0 = 124 →
                                        (Q true)) ∧
                                      (¬ (a0 = 124) →
                                        (Q (decide (a0 = 126))))))))))))))))))) ∧
        (¬ (48 ≤ a0) →
          (a0 = 33 →
            (Q true)) ∧
          (¬ (a0 = 33) →
            (a0 = 35 →
              (Q true)) ∧
            (¬ (a0 = 35) →
              (a0 = 36 →
                (Q true)) ∧
              (¬ (a0 = 36) →
                (a0 = 37 →
                  (Q true)) ∧
                (¬ (a0 = 37) →
                  (a0 = 38 →
                    (Q true)) ∧
                  (¬ (a0 = 38) →
                    (a0 = 39 →
                      (Q true)) ∧
                    (¬ (a0 = 39) →
                      (a0 = 42 →
                        (Q true)) ∧
                      (¬ (a0 = 42) →
                        (a0 = 43 →
                          (Q true)) ∧
                        (¬ (a0 = 43) →
                          (a0 = 45 →
                            (Q true)) ∧
                          (¬ (a0 = 45) →
                            (a0 = 46 →
                              (Q true)) ∧
                            (¬ (a0 = 46) →
                              (a0 = 94 →
                                (Q true)) ∧
                              (¬ (a0 = 94) →
                                (a0 = 95 →
                                  (Q true)) ∧
                                (¬ (a0 = 95) →
                                  (a0 = 96 →
                                    (Q true)) ∧
                                  (¬ (a0 = 96) →
                                    (a0 = 124 →
                                      (Q true)) ∧
                                    (¬ (a0 = 124) →
                                      (Q (decide (a0 = 126)))))))))))))))))))) ∧
    (¬ (65 ≤ a0) →
      (48 ≤ a0 →
        (a0 ≤ 57 →
          (Q true)) ∧
        (¬ (a0 ≤ 57) →
          (a0 = 33 →
            (Q true)) ∧
          (¬ (a0 = 33) →
            (a0 = 35 →
              (Q true)) ∧
            (¬ (a0 = 35) →
              (a0 = 36 →
                (Q true)) ∧
              (¬ (a0 = 36) →
                (a0 = 37 →
                  (Q true)) ∧
                (¬ (a0 = 37) →
                  (a0 = 38 →
                    (Q true)) ∧
                  (¬ (a0 = 38) →
                    (a0 = 39 →
                      (Q true)) ∧
                    (¬ (a0 = 39) →
                      (a0 = 42 →
                        (Q true)) ∧
                      (¬ (a0 = 42) →
                        (a0 = 43 →
                          (Q true)) ∧
                        (¬ (a0 = 43) →
                          (a0 = 45 →
                            (Q true)) ∧
                          (¬ (a0 = 45) →
                            (a0 = 46 →
                              (Q true)) ∧
                            (¬ (a0 = 46) →
                              (a0 = 94 →
                                (Q true)) ∧
                              (¬ (a0 = 94) →
                                (a0 = 95 →
                                  (Q true)) ∧
                                (¬ (a0 = 95) →
                                  (a0 = 96 →
                                    (Q true)) ∧
                                  (¬ (a0 = 96) →
                                    (a0 = 124 →
                                      (Q true)) ∧
                                    (¬ (a0 = 124) →
                                      (Q (decide (a0 = 126))))))))))))))))))) ∧
      (¬ (48 ≤ a0) →
        (a0 = 33 →
          (Q true)) ∧
        (¬ (a0 = 33) →
          (a0 = 35 →
            (Q true)) ∧
          (¬ (a0 = 35) →
            (a0 = 36 →
              (Q true)) ∧
            (¬ (a0 = 36) →
              (a0 = 37 →
                (Q true)) ∧
              (¬ (a0 = 37) →
                (a0 = 38 →
                  (Q true)) ∧
                (¬ (a0 = 38) →
                  (a0 = 39 →
                    (Q true)) ∧
                  (¬ (a0 = 39) →
                    (a0 = 42 →
                      (Q true)) ∧
                    (¬ (a0 = 42) →
                      (a0 = 43 →
                        (Q true)) ∧
                      (¬ (a0 = 43) →
                        (a0 = 45 →
                          (Q true)) ∧
                        (¬ (a0 = 45) →
                          (a0 = 46 →
                            (Q true)) ∧
                          (¬ (a0 = 46) →
                            (a0 = 94 →
                              (Q true)) ∧
                            (¬ (a0 = 94) →
                              (a0 = 95 →
                                (Q true)) ∧
                              (¬ (a0 = 95) →
                                (a0 = 96 →
                                  (Q true)) ∧
                                (¬ (a0 = 96) →
                                  (a0 = 124 →
                                    (Q true)) ∧
                                  (¬ (a0 = 124) →
                                    (Q (decide (a0 = 126))))))))))))))))))))

def s_spec_l3FieldOk (a0 : Fld) (Q : (Bool → Prop)) : Prop :=
  pIsTokenText a0.1 ∧
  ((mIsTokenText a0.1) = true →
    pLower a0.1 ∧
    (a0.1 = (mLower a0.1) →
      ((a0.1.size : Int) ≤ 24 →
        pIsValueText a0.2 ∧
        ((mIsValueText a0.2) = true →
          (Q (decide ((a0.2.size : Int) ≤ 60)))) ∧
        (¬ ((mIsValueText a0.2) = true) →
          (Q false))) ∧
      (¬ ((a0.1.size : Int) ≤ 24) →
        (Q false))) ∧
    (¬ (a0.1 = (mLower a0.1)) →
      (Q false))) ∧
  (¬ ((mIsTokenText a0.1) = true) →
    (Q false))

def s_spec_l6Plain (a0 : (List Fld)) (Q : (Bool → Prop)) : Prop :=
  pFieldGet a0 (lit [116, 114, 97, 110, 115, 102, 101, 114, 45, 101, 110, 99, 111, 100, 105, 110, 103]) ∧
  pFieldGet a0 (lit [99, 111, 110, 116, 101, 110, 116, 45, 108, 101, 110, 103, 116, 104]) ∧
  (¬ ((mFieldGet a0 (lit [116, 114, 97, 110, 115, 102, 101, 114, 45, 101, 110, 99, 111, 100, 105, 110, 103])).2 = true) →
    (¬ ((mFieldGet a0 (lit [99, 111, 110, 116, 101, 110, 116, 45, 108, 101, 110, 103, 116, 104])).2 = true) →
      ((a0.length : Int) < 12 →
        pFieldsOk a0 ∧
        (Q (mFieldsOk a0))) ∧
      (¬ ((a0.length : Int) < 12) →
        (Q false))) ∧
    (¬ (¬ ((mFieldGet a0 (lit [99, 111, 110, 116, 101, 110, 116, 45, 108, 101, 110, 103, 116, 104])).2 = true)) →
      (Q false))) ∧
  (¬ (¬ ((mFieldGet a0 (lit [116, 114, 97, 110, 115, 102, 101, 114, 45, 101, 110, 99, 111, 100, 105, 110, 103])).2 = true)) →
    (Q false))

end Go.Ev
end

section
/- Laws of the plain library: what the functions come to is what they compute. First part: small ones. -/
set_option linter.unusedVariables false
namespace Go.Ev

theorem spec_l1In_ok (a0 a1 a2 : Int) : s_spec_l1In a0 a1 a2 (fun r => r = mIn a0 a1 a2) := by
  unfold s_spec_l1In mIn; grind
theorem impl_in_ok (a0 a1 a2 : Int) : s_impl_in a0 a1 a2 (fun r => r = mIn a0 a1 a2) := by
  unfold s_impl_in mIn; grind
theorem spec_l2Blank_ok (a0 : Int) : s_spec_l2Blank a0 (fun r => r = mBlank a0) := by
  unfold s_spec_l2Blank mBlank; grind
theorem impl_bodiless_ok (a0 : Int) : s_impl_bodiless a0 (fun r => r = mBodiless a0) := by
  unfold s_impl_bodiless mBodiless; grind
theorem impl_isLetterOrDigit_ok (a0 : Int) : s_impl_isLetterOrDigit a0 (fun r => r = mIsLetterOrDigit a0) := by
  unfold s_impl_isLetterOrDigit mIsLetterOrDigit
  (repeat' first | apply And.intro | intro _) <;> grind
theorem spec_l2Token_ok (a0 : Int) : s_spec_l2Token a0 (fun r => r = mToken a0) := by
  unfold s_spec_l2Token mToken mIsLetterOrDigit tokenSigns
  simp only [List.any_cons, List.any_nil]
  (repeat' first | apply And.intro | intro _) <;> simp only [*, decide_true, decide_false, Bool.and_true, Bool.true_or, Bool.or_true, Bool.false_or, Bool.or_false, Bool.and_false, Bool.false_and, Bool.true_and]
theorem impl_shardSizes_ok (a0 a1 : Int) : s_impl_shardSizes a0 a1 (fun r => r = mShardSizes a0 a1) := by
  unfold s_impl_shardSizes mShardSizes pIn; grind
theorem impl_fieldOk_ok (a0 : Fld) (h : pFieldOk a0) : s_impl_fieldOk a0 (fun r => r = mFieldOk a0) := by
  unfold s_impl_fieldOk mFieldOk; unfold pFieldOk at h; simp only [pIsTokenText, pLower, pIsValueText]; grind
theorem spec_l3FieldOk_ok (a0 : Fld) (h : pFieldOk a0) : s_spec_l3FieldOk a0 (fun r => r = mFieldOk a0) := by
  unfold s_spec_l3FieldOk mFieldOk; unfold pFieldOk at h; simp only [pIsTokenText, pLower, pIsValueText]; grind
theorem impl_FieldsOk_1_ok (a0 : Fld) (h : pFieldsOk_1 a0) : s_impl_FieldsOk_1 a0 (fun r => r = mFieldsOk_1 a0) := by
  unfold s_impl_FieldsOk_1 mFieldsOk_1; unfold pFieldsOk_1 at h; grind
theorem impl_hasField_ok (a0 : List Fld) (a1 : S) (h : pHasField a0 a1) : s_impl_hasField a0 a1 (fun r => r = mHasField a0 a1) := ⟨h, rfl⟩
theorem impl_bodyFields_ok (a0 : List Fld) (h : pBodyFields a0) : s_impl_bodyFields a0 (fun r => r = mBodyFields a0) := by
  unfold s_impl_bodyFields mBodyFields nameCL nameTE; unfold pBodyFields at h; unfold pHasField; grind
theorem impl_ownFields_ok (a0 : List Fld) (h : pOwnFields a0) : s_impl_ownFields a0 (fun r => r = mOwnFields a0) := by
  unfold s_impl_ownFields mOwnFields; unfold pOwnFields at h; unfold pFieldsOk pBodyFields; grind
theorem spec_l6Plain_ok (a0 : List Fld) (h : pOwnFields a0) : s_spec_l6Plain a0 (fun r => r = mOwnFields a0) := by
  unfold s_spec_l6Plain mOwnFields mBodyFields mHasField nameCL nameTE; unfold pOwnFields at h; unfold pFieldsOk pFieldGet; grind
theorem impl_ResponseOk_ok (a0 : Rsp) (h : pResponseOk a0) : s_impl_ResponseOk a0 (fun r => r = mResponseOk a0) := by
  unfold s_impl_ResponseOk mResponseOk; unfold pResponseOk at h; unfold pIn pOwnFields pBodiless; grind
theorem spec_ResponseOk_ok (a0 : Rsp) (h : pResponseOk a0) : s_spec_ResponseOk a0 (fun r => r = mResponseOk a0) := by
  unfold s_spec_ResponseOk mResponseOk mBodiless; unfold pResponseOk at h; unfold pIn pOwnFields
  (repeat' first | apply And.intro | intro _) <;> grind
theorem impl_Trim_ok (a0 : S) (h : pTrim a0) : s_impl_Trim a0 (fun r => r = mTrim a0) := ⟨⟨h, rfl⟩, rfl⟩
end Go.Ev
end

section
/- Laws of the plain library, second part: searches. -/
set_option linter.unusedVariables false
namespace Go.Ev

def scanS {α : Type} [Dft α] (xs : List α) (P C : α → Prop) (Qh : Int → Prop) (Qe : Prop) : Prop :=
  ∀ L : Int → Prop, (∀ y : Int, ((y < (xs.length : Int) → 0 ≤ y ∧ y < (xs.length : Int) ∧ P (rx xs y) ∧ ((C (rx xs y) → Qh y) ∧ (¬ C (rx xs y) → L (IntKind.i64.wrap (y + 1))))) ∧
    (¬ y < (xs.length : Int) → Qe)) → L y) → L 0
theorem scanS_ok {α : Type} [Dft α] {xs : List α} {P C : α → Prop} {Qh : Int → Prop} {Qe : Prop} (hlen : xs.length ≤ maxLen) (hP : ∀ x ∈ xs, P x)
    (hh : ∀ (i : Nat) (h : i < xs.length), C xs[i] → (∀ (j : Nat) (hj : j < i), ¬ C (xs[j]'(by omega))) → Qh (i : Int)) (he : (∀ x ∈ xs, ¬ C x) → Qe) : scanS xs P C Qh Qe := by
  intro L hL
  simp only [maxLen] at hlen
  refine loopN hL xs.length (by omega) (fun i => ∀ (j : Nat) (hj : j < i) (h : j < xs.length), ¬ C xs[j]) (fun i hi hI hn => ?_) (fun j hj => by omega)
  refine ⟨fun hlt => ?_, fun hge => ?_⟩
  · have hlt : i < xs.length := by omega
    rw [rx_get xs hlt]
    refine ⟨by omega, by omega, hP _ (List.getElem_mem hlt), fun hc => hh i hlt hc fun j hj => hI j hj (by omega), fun hc => hn hlt fun j hj h => ?_⟩
    by_cases e : j = i
    · subst e; exact hc
    · exact hI j (by omega) h
  · refine he fun x hx => ?_
    obtain ⟨j, hj, rfl⟩ := List.mem_iff_getElem.1 hx
    exact hI j (by omega) hj
def scanT {α : Type} [Dft α] (xs : List α) (C : α → Prop) (Qh : Int → Prop) (Qe : Prop) : Prop :=
  ∀ L : Int → Prop, (∀ y : Int, ((y < (xs.length : Int) → 0 ≤ y ∧ y < (xs.length : Int) ∧ ((C (rx xs y) → Qh y) ∧ (¬ C (rx xs y) → L (IntKind.i64.wrap (y + 1))))) ∧
    (¬ y < (xs.length : Int) → Qe)) → L y) → L 0
theorem scanT_ok {α : Type} [Dft α] {xs : List α} {C : α → Prop} {Qh : Int → Prop} {Qe : Prop} (hlen : xs.length ≤ maxLen)
    (hh : ∀ (i : Nat) (h : i < xs.length), C xs[i] → (∀ (j : Nat) (hj : j < i), ¬ C (xs[j]'(by omega))) → Qh (i : Int)) (he : (∀ x ∈ xs, ¬ C x) → Qe) : scanT xs C Qh Qe := by
  have h : scanS xs (fun _ => True) C Qh Qe := scanS_ok hlen (fun _ _ => trivial) hh he
  intro L hL
  exact h L fun y hy => hL y ⟨fun h1 => ⟨(hy.1 h1).1, (hy.1 h1).2.1, (hy.1 h1).2.2.2⟩, hy.2⟩
theorem md_len {α : Type} [Cz α] {xs : List α} (h : md xs) : xs.length ≤ maxLen := by
  have := cz_len xs
  unfold md at h
  simp only [maxLen]; omega
theorem md_len' {α : Type} [Cz α] {xs : List α} (h : md xs) : xs.length ≤ 1048576 := by
  have := cz_len xs
  unfold md at h
  omega

theorem idxS_ok {α : Type} [Dft α] {xs : List α} {P : α → Prop} {F : α → Bool} (hlen : xs.length ≤ maxLen) (hP : ∀ x ∈ xs, P x) :
    scanS xs P (fun x => F x = true) (fun i => i = idxI F xs) (-1 = idxI F xs) :=
  scanS_ok hlen hP (fun i h hc hb => (idxI_at h hc fun j hj => by have := hb j hj; simpa using this).symm)
    (fun h => (idxI_none fun j hj => by have := h _ (List.getElem_mem hj); simpa using this).symm)
theorem idxI_nonneg {α : Type} {F : α → Bool} {xs : List α} : decide (0 ≤ idxI F xs) = xs.any F := by
  have h := idxI_neg (p := F) (xs := xs)
  cases hx : xs.any F with
  | true =>
    rw [hx] at h
    have : ¬ idxI F xs < 0 := by rw [h]; simp
    exact decide_eq_true (by omega)
  | false =>
    have := h.2 hx
    exact decide_eq_false (by omega)
theorem sm_of_md {x y : S} (h : cz (x, y) ≤ 1048576) : sm x ∧ sm y := by
  simp only [cz_pair, cz_str] at h
  unfold sm; omega

theorem IndexFunc_FieldsOk_1_ok (a0 : List Fld) (a1 : Unit) (h : pIndexFunc_FieldsOk_1 a0 a1) : s_IndexFunc_FieldsOk_1 a0 a1 (fun r => r = mIndexFunc_FieldsOk_1 a0 a1) :=
  idxS_ok (P := pFieldsOk_1) (md_len h) fun x hx => sm_of_md (md_mem h hx)
theorem ContainsFunc_FieldsOk_1_ok (a0 : List Fld) (a1 : Unit) (h : pContainsFunc_FieldsOk_1 a0 a1) : s_ContainsFunc_FieldsOk_1 a0 a1 (fun r => r = mContainsFunc_FieldsOk_1 a0 a1) :=
  ⟨h, idxI_nonneg⟩
theorem impl_FieldsOk_ok (a0 : List Fld) (h : pFieldsOk a0) : s_impl_FieldsOk a0 (fun r => r = mFieldsOk a0) := by
  have e : (a0.any mFieldsOk_1) = !(a0.all mFieldOk) := by
    unfold mFieldsOk_1
    rw [List.all_eq_not_any_not, Bool.not_not]
  unfold s_impl_FieldsOk mFieldsOk mContainsFunc_FieldsOk_1
  rw [e]
  unfold pContainsFunc_FieldsOk_1
  unfold pFieldsOk at h
  grind
theorem spec_FieldsOk_ok (a0 : List Fld) (h : pFieldsOk a0) : s_spec_FieldsOk a0 (fun r => r = mFieldsOk a0) := by
  refine scanS_ok (P := pFieldOk) (C := fun x => ¬ mFieldOk x = true) (Qh := fun _ => false = mFieldsOk a0) (md_len h) (fun x hx => sm_of_md (md_mem h hx)) (fun i hi hc _ => ?_) (fun hx => ?_)
  · unfold mFieldsOk
    rw [all_false hi (by simpa using hc)]; rfl
  · unfold mFieldsOk
    rw [List.all_eq_true.2 fun x hx' => by have := hx x hx'; simpa using this]; rfl
theorem slices_Index_string_ok (a0 : List S) (a1 : S) (h : pIndex_string a0 a1) : s_slices_Index_string a0 a1 (fun r => r = mIndex_string a0 a1) := by
  refine scanT_ok (C := fun x => a1 = x) (Qh := fun i => i = mIndex_string a0 a1) h (fun i hi hc hb => ?_) (fun hx => ?_)
  · exact (idxI_at hi (by simpa using hc) fun j hj => by have := hb j hj; simpa using this).symm
  · exact (idxI_none fun j hj => by have := hx _ (List.getElem_mem hj); simpa using this).symm
theorem slices_Contains_string_ok (a0 : List S) (a1 : S) (h : pContains_string a0 a1) : s_slices_Contains_string a0 a1 (fun r => r = mContains_string a0 a1) := ⟨h, idxI_nonneg⟩
theorem IndexFunc_ShardOk_1_ok (a0 : List Slt) (a1 : Slt) (h : pIndexFunc_ShardOk_1 a0 a1) : s_IndexFunc_ShardOk_1 a0 a1 (fun r => r = mIndexFunc_ShardOk_1 a0 a1) :=
  idxS_ok (P := fun y => pShardOk_1 y a1) (F := fun y => mShardOk_1 y a1) h.1 fun _ _ => h.2
theorem ContainsFunc_ShardOk_1_ok (a0 : List Slt) (a1 : Slt) (h : pContainsFunc_ShardOk_1 a0 a1) : s_ContainsFunc_ShardOk_1 a0 a1 (fun r => r = mContainsFunc_ShardOk_1 a0 a1) := ⟨h, idxI_nonneg⟩

theorem spec_SameFields_ok (a0 a1 : List Fld) (h : pSameFields a0 a1) : s_spec_SameFields a0 a1 (fun r => r = mSameFields a0 a1) := by
  unfold pSameFields at h
  simp only [maxLen] at h
  unfold s_spec_SameFields mSameFields
  refine ⟨fun hne => (decide_eq_false fun e => hne (by rw [e])).symm, fun heq => ?_⟩
  have hl : a0.length = a1.length := by omega
  intro L hL
  refine loopN hL a0.length (by omega) (fun i => a0.take i = a1.take i) (fun i hi hI hn => ?_) rfl
  refine ⟨fun hlt => ?_, fun hge => ?_⟩
  · have h0 : i < a0.length := by omega
    have h1 : i < a1.length := by omega
    rw [rx_get a0 h0, rx_get a1 h1]
    refine ⟨by omega, by omega, by omega, by omega, fun hc => (decide_eq_false fun e => hc (by subst e; rfl)).symm, fun hc => hn h0 ?_⟩
    rw [take_succ_app h0, take_succ_app h1, hI, Classical.not_not.1 hc]
  · refine (decide_eq_true ?_).symm
    have e0 : a0.take i = a0 := List.take_of_length_le (by omega)
    have e1 : a1.take i = a1 := List.take_of_length_le (by omega)
    rw [← e0, hI, e1]
theorem slices_Equal_Field_ok (a0 a1 : List Fld) (h : pEqual_Field a0 a1) : s_slices_Equal_Field a0 a1 (fun r => r = mEqual_Field a0 a1) := spec_SameFields_ok a0 a1 h
theorem impl_SameFields_ok (a0 a1 : List Fld) (h : pSameFields a0 a1) : s_impl_SameFields a0 a1 (fun r => r = mSameFields a0 a1) := ⟨h, rfl⟩
theorem spec_l12Same_ok (a0 a1 : Sto) (h : pStandAlike a0 a1) : s_spec_l12Same a0 a1 (fun r => r = mStandAlike a0 a1) := by
  unfold s_spec_l12Same mStandAlike
  unfold pStandAlike at h
  unfold pSameFields mSameFields
  grind
theorem impl_standAlike_ok (a0 a1 : Sto) (h : pStandAlike a0 a1) : s_impl_standAlike a0 a1 (fun r => r = mStandAlike a0 a1) := spec_l12Same_ok a0 a1 h
theorem impl_ShardOk_1_ok (a0 a1 : Slt) (h : pShardOk_1 a0 a1) : s_impl_ShardOk_1 a0 a1 (fun r => r = mShardOk_1 a0 a1) := ⟨h, rfl⟩

theorem ints_get (s : S) {i : Nat} (h : i < s.size) : (ints s)[i]'(by unfold ints; rw [List.length_map, bs_len]; exact h) = bt s (i : Int) := by
  rw [bt_nat s i h]
  unfold ints
  rw [List.getElem_map]
theorem ints_len (s : S) : (ints s).length = s.size := by unfold ints; rw [List.length_map, bs_len]
theorem ints_all {s : S} {p : Int → Bool} : (ints s).all p = true ↔ ∀ i : Nat, i < s.size → p (bt s (i : Int)) = true := by
  rw [List.all_eq_true]
  constructor
  · intro h i hi
    rw [← ints_get s hi]
    exact h _ (List.getElem_mem _)
  · intro h x hx
    obtain ⟨j, hj, rfl⟩ := List.mem_iff_getElem.1 hx
    have hj' : j < s.size := by rw [ints_len] at hj; exact hj
    rw [ints_get s hj']
    exact h j hj'
theorem ints_all_false {s : S} {p : Int → Bool} {i : Nat} (h : i < s.size) (hp : ¬ p (bt s (i : Int)) = true) : (ints s).all p = false := by
  cases hx : (ints s).all p with
  | false => rfl
  | true => exact absurd (ints_all.1 hx i h) hp
theorem scanB {s : S} {p : Int → Bool} {B : Int → (Int → Prop) → Prop} (hlen : sm s)
    (hit : ∀ i : Nat, i < s.size → ∀ L : Int → Prop, (p (bt s (i : Int)) = true → L (IntKind.i64.wrap ((i : Int) + 1))) → (¬ p (bt s (i : Int)) = true → (ints s).all p = false) → B (i : Int) L)
    (he : (ints s).all p = true → ∀ L, B (s.size : Int) L) : ∀ L : Int → Prop, (∀ y, B y L → L y) → L 0 := by
  intro L hL
  unfold sm at hlen
  refine loopN hL s.size (by omega) (fun i => ∀ j : Nat, j < i → j < s.size → p (bt s (j : Int)) = true) (fun i hi hI hn => ?_) (fun j hj => by omega)
  by_cases hlt : i < s.size
  · refine hit i hlt L (fun hp => hn hlt fun j hj hj2 => ?_) fun hp => ints_all_false hlt hp
    by_cases e : j = i
    · subst e; exact hp
    · exact hI j (by omega) hj2
  · have : i = s.size := by omega
    subst this
    exact he (ints_all.2 fun j hj => hI j hj hj) L
theorem spec_UriOk_ok (a0 : S) (h : pUriOk a0) : s_spec_UriOk a0 (fun r => r = mUriOk a0) := by
  refine scanB (p := fun b => decide (33 ≤ b) && decide (b ≤ 126)) h (fun i hi L hL hf => ?_) fun ha L => ?_
  · unfold mUriOk
    grind
  · unfold mUriOk pIn
    simp only [ha]
    refine ⟨fun h => by omega, fun _ => ⟨trivial, fun h1 => ⟨by omega, ?_, ?_⟩, fun h1 => ?_⟩⟩
    · unfold mIn at h1; grind
    · rw [h1]; rfl
    · rw [Bool.not_eq_true] at h1; rw [h1]; rfl
theorem impl_UriOk_ok (a0 : S) (h : pUriOk a0) : s_impl_UriOk a0 (fun r => r = mUriOk a0) := by
  refine scanB (p := fun b => decide (33 ≤ b) && decide (b ≤ 126)) h (fun i hi L hL hf => ?_) fun ha L => ?_
  · unfold mUriOk
    grind
  · unfold mUriOk pIn
    simp only [ha]
    refine ⟨fun h => by omega, fun _ => ⟨trivial, fun h1 => ⟨by omega, ?_, ?_⟩, fun h1 => ?_⟩⟩
    · unfold mIn at h1; grind
    · rw [h1]; rfl
    · rw [Bool.not_eq_true] at h1; rw [h1]; rfl
theorem spec_IsTokenText_ok (a0 : S) (h : pIsTokenText a0) : s_spec_IsTokenText a0 (fun r => r = mIsTokenText a0) := by
  refine scanB (p := mToken) h (fun i hi L hL hf => ?_) fun ha L => ?_
  · unfold mIsTokenText pToken
    grind
  · unfold mIsTokenText
    simp only [ha]
    grind
theorem sign_iff : ∀ n : Fin 256, (mToken (n.val : Int) = true) ↔ (mIsLetterOrDigit (n.val : Int) = true ∨ ¬ mIndexByte (lit [33, 35, 36, 37, 38, 39, 42, 43, 45, 46, 94, 95, 124, 126, 96]) (n.val : Int) < 0) := by decide +kernel
theorem impl_IsTokenText_ok (a0 : S) (h : pIsTokenText a0) : s_impl_IsTokenText a0 (fun r => r = mIsTokenText a0) := by
  refine scanB (p := mToken) h (fun i hi L hL hf => ?_) fun ha L => ?_
  · have hb := bt_range a0 (i : Int)
    have hs := sign_iff ⟨(bt a0 (i : Int)).toNat, by omega⟩
    simp only [Int.toNat_of_nonneg hb.1] at hs
    unfold mIsTokenText pIsLetterOrDigit pIndexByte
    generalize mIndexByte _ (bt a0 (i : Int)) = k at hs ⊢
    grind
  · unfold mIsTokenText
    simp only [ha]
    refine ⟨fun h => by omega, fun _ => ?_⟩
    rw [Bool.true_and]
    exact decide_eq_decide.2 lit_ne
theorem spec_IsValueText_ok (a0 : S) (h : pIsValueText a0) : s_spec_IsValueText a0 (fun r => r = mIsValueText a0) := by
  refine scanB (p := fun b => decide (b = 9) || (decide (32 ≤ b) && decide (b ≠ 127))) h (fun i hi L hL hf => ?_) fun ha L => ?_
  · unfold mIsValueText
    grind
  · unfold mIsValueText
    simp only [ha]
    exact ⟨fun h => by omega, fun _ => ⟨h, rfl⟩⟩
theorem impl_IsValueText_ok (a0 : S) (h : pIsValueText a0) : s_impl_IsValueText a0 (fun r => r = mIsValueText a0) := by
  refine scanB (p := fun b => decide (b = 9) || (decide (32 ≤ b) && decide (b ≠ 127))) h (fun i hi L hL hf => ?_) fun ha L => ?_
  · unfold mIsValueText
    grind
  · unfold mIsValueText
    simp only [ha]
    exact ⟨fun h => by omega, fun _ => ⟨h, rfl⟩⟩
end Go.Ev
end

section
/- A law's end: from the contract of the law's function to its calls. -/
set_option linter.unusedVariables false
namespace Go.Ev
open Go.RowKit Go.WideShapes
def boolCt (f : FuncId) (ps : List PT) (pre : pts ps → Prop) : Ct := { f, ps, rs := [(false, [.bool])], shared := false, pre, F := fun _ => (true : Bool) }
theorem bool_end {P : Program} {f : FuncId} {ps : List PT} {pre : pts ps → Prop} {W : World} {vals : Array Value} {x : pts ps} (h : CtAt P (boolCt f ps pre) W) (hargs : argsR (now W) W ps x vals.toList) (hpre : pre x) :
    Calls P f vals W fun e w' => e = .returned (.bool true) ∧ Below W.heap.size W w' := by
  obtain ⟨_, hc⟩ := h vals x (now W) (fun b hb => hb) hargs hpre
  refine hc.mono fun e w' ⟨vs, v, col, he, hb, hv, _, hr⟩ => ?_
  simp only [boolCt, resR] at hr
  obtain ⟨u, vs', cs, rfl, ho, hs, rfl⟩ := hr
  simp only [outR, repL] at ho
  obtain ⟨u2, cs', rfl, hb2, rfl⟩ := ho
  have hs := hs.resolve_left fun h => by simp [anyRes] at h
  simp only [slotV, Bool.false_eq_true, if_false] at hs
  have e1 : u2 = u := by simpa using hs
  subst e1
  have hu : u2 = .bool true := hb2
  subst hu
  refine ⟨?_, hb⟩
  rw [he]
  rcases hv with hv | ⟨hv, _⟩
  · have : v = .bool true := by simpa using hv.symm
    rw [this]
  · simp at hv
theorem args_nil {S : Nat → Prop} {W : World} : argsR S W [] () [] := rfl
theorem args_cons {S : Nat → Prop} {W : World} {p : PT} {ps : List PT} {x : p.den} {xs : pts ps} {v : Value} {vs : List Value} (h1 : argR S W p x v) (h2 : argsR S W ps xs vs) : argsR S W (p :: ps) (pmk x xs) (v :: vs) := by
  simp only [argsR]
  exact ⟨v, vs, rfl, by rw [phd_pmk]; exact h1, by rw [ptl_pmk]; exact h2⟩
theorem arg_agg {S : Nat → Prop} {W : World} {ts : List L} {x : dens ts} {cs : Array Value} (h : repLs (roRow W S) ts [] 0 0 x cs.toList) : argR S W (.v true .ro ts) x (.agg cs) := ⟨cs.toList, h, by simp [slotV]⟩
theorem by_like {A B : Prop} (hA : A) (h : A = B) : B := h ▸ hA
end Go.Ev
end

section
/- Laws of the plain library: worlds. -/
set_option linter.unusedVariables false
namespace Go.Ev
theorem szF_md {α : Type} [Cz α] {x : α} {k : Int} (h : ¬ szF x k < 0) (h0 : 0 ≤ k) (h1 : k ≤ 1048576) : md x := by
  unfold szF leftI at h
  unfold md
  split at h
  · omega
  · omega
end Go.Ev
end

section
/- Laws of the plain library: numerals. -/
set_option linter.unusedVariables false
namespace Go.Ev
def decLeft (n : Int) : List UInt8 := if n = 0 then [] else Lib.decDigits n.natAbs
theorem td10 (n : Int) : (0 ≤ n ∧ n.tdiv 10 = n / 10 ∧ n.tmod 10 = n % 10) ∨ (n < 0 ∧ n.tdiv 10 = -((-n) / 10) ∧ n.tmod 10 = -((-n) % 10)) := by
  rcases Int.le_total 0 n with h | h
  · exact Or.inl ⟨h, Int.tdiv_eq_ediv_of_nonneg h, Int.tmod_eq_emod_of_nonneg h⟩
  · by_cases h0 : n = 0
    · subst h0; exact Or.inl ⟨by omega, rfl, rfl⟩
    · refine Or.inr ⟨by omega, ?_, ?_⟩
      · rw [← Int.tdiv_eq_ediv_of_nonneg (by omega), Int.neg_tdiv, Int.neg_neg]
      · rw [← Int.tmod_eq_emod_of_nonneg (by omega), Int.neg_tmod, Int.neg_neg]
theorem decLeft_step {n : Int} (h : n ≠ 0) : decLeft n = decLeft (n.tdiv 10) ++ [UInt8.ofNat (48 + n.natAbs % 10)] := by
  have e : (n.tdiv 10).natAbs = n.natAbs / 10 := by rw [Int.natAbs_tdiv]; rfl
  have ht := td10 n
  unfold decLeft
  rw [if_neg h]
  by_cases h1 : n.natAbs < 10
  · have : n.tdiv 10 = 0 := by omega
    rw [if_pos this, Lib.decDigits_one h1, Nat.mod_eq_of_lt h1]; rfl
  · have : n.tdiv 10 ≠ 0 := by omega
    rw [if_neg this, e, Lib.decDigits, dif_neg h1]
theorem digit_pos {n : Int} (h0 : in64 n) (h : ¬ n.tmod 10 < 0) : strOf [IntKind.u8.wrap (IntKind.i64.wrap (48 + n.tmod 10))] = ob [UInt8.ofNat (48 + n.natAbs % 10)] := by
  obtain ⟨ha, hb⟩ := h0
  have ht := td10 n
  have e2 : IntKind.i64.wrap (48 + n.tmod 10) = ((48 + n.natAbs % 10 : Nat) : Int) := by rw [wrap64 (by omega) (by omega)]; omega
  have hlt : n.natAbs % 10 < 10 := Nat.mod_lt _ (by decide)
  rw [e2]
  generalize n.natAbs % 10 = k at hlt
  have : ∀ k : Fin 10, strOf [IntKind.u8.wrap ((48 + k.val : Nat) : Int)] = ob [UInt8.ofNat (48 + k.val)] := by decide +kernel
  exact this ⟨k, hlt⟩
end Go.Ev
end

section
/- Library functions: from a call's law to a contract of the small machine. -/
set_option linter.unusedVariables false
namespace Go.Ev
open Go.RowKit
def FnIs (P : Program) (f : FuncId) : Prop := ∃ fn, P.funcs[f]? = some fn ∧ (fn.name == "runtime.NumGoroutine") = false ∧ fn.body.isNone = false
theorem args_v {S : Nat → Prop} {W : World} {t : L} {ps : List PT} {x : pts (.v false .ro [t] :: ps)} {vs : List Value} (h : argsR S W (.v false .ro [t] :: ps) x vs) :
    ∃ v vs', vs = v :: vs' ∧ repL (roRow W S) t [(0, 0)] (hd (phd x)) v ∧ argsR S W ps (ptl x) vs' := by
  simp only [argsR, argR] at h
  obtain ⟨v, vs', rfl, ⟨cs, hc, hs⟩, h2⟩ := h
  obtain ⟨u, cs', rfl, hu, hn⟩ := repLs_cons.1 hc
  simp only [repLs] at hn
  subst hn
  simp only [slotV, Bool.false_eq_true, if_false] at hs
  obtain rfl : u = v := by simpa using hs
  exact ⟨u, vs', rfl, hu, h2⟩
theorem args_e {S : Nat → Prop} {W : World} {x : pts []} {vs : List Value} (h : argsR S W [] x vs) : vs = [] := h
theorem arr_of {vals : Array Value} {l : List Value} (h : vals.toList = l) : vals = l.toArray := by rw [← h]
theorem ct_lib {P : Program} {c : Ct} {w : World} (hf : FnIs P c.f)
    (h : ∀ (vals : Array Value) (x : pts c.ps) (S : Nat → Prop), (∀ b, S b → b < w.heap.size) → argsR S w c.ps x vals.toList → c.pre x →
      Calls P c.f vals w fun e w' => ∃ vs v, e = .returned v ∧ Below w.heap.size w w' ∧ retV vs v ∧ ∀ S', resR S' (fun _ => none) w' c.shared c.deep c.rs (c.F x) 0 vs) : CtAt P c w :=
  fun vals x S hS ha hp => ⟨hf, (h vals x S hS ha hp).mono fun e w' ⟨vs, v, he, hb, hv, hr⟩ => ⟨vs, v, fun _ => none, he, hb, hv, fun b hb => absurd rfl hb, hr _⟩⟩
theorem res_str {S : Nat → Prop} {col : Nat → Option Col} {W : World} (x : ByteArray) : resR S col W false false [(false, [.str])] (x : caps [[L.str]]) 0 [.string x] := by
  simp only [resR]
  exact ⟨_, _, [.string x], rfl, by simp only [outR]; exact ⟨_, _, rfl, rfl, rfl⟩, .inr rfl, rfl⟩
theorem res_int {S : Nat → Prop} {col : Nat → Option Col} {W : World} {k : IntKind} (x : Int) : resR S col W false false [(false, [.int k])] (x : caps [[L.int k]]) 0 [.int k x] := by
  simp only [resR]
  exact ⟨_, _, [.int k x], rfl, by simp only [outR]; exact ⟨_, _, rfl, rfl, rfl⟩, .inr rfl, rfl⟩
end Go.Ev
end

section
/- Laws of the plain library: the law of TagOf. -/
set_option linter.unusedVariables false
namespace Go.Ev
end Go.Ev
end

section
/- Laws of the plain library: the laws' functions of the doors. -/
set_option linter.unusedVariables false
namespace Go.Ev
theorem szF_le {α : Type} [Cz α] (x : α) {k : Int} (h0 : 0 ≤ k) : szF x k ≤ k := by
  unfold szF leftI
  split <;> omega
theorem pSz_next {α β : Type} [Cz α] [Cz β] [Wd β] {x : α} {y : β} {k : Int} (h : ¬ szF x k < 0) (h0 : 0 ≤ k) (h1 : k ≤ 1048576) (hy : wd y) : pSz y (szF x k) :=
  ⟨hy, by omega, by have := szF_le x h0; simp only [capI]; omega⟩
theorem md_req {q : Req} (h : md q) : md q.2.2.1 := by
  unfold md at h ⊢; simp only [cz_pair] at h; omega
theorem md_rsp {r : Rsp} (h : md r) : md r.2.1 := by
  unfold md at h ⊢; simp only [cz_pair] at h; omega
end Go.Ev
end

section
/- Laws of the plain library: more of the laws' functions. -/
set_option linter.unusedVariables false
namespace Go.Ev
end Go.Ev
end

section
/- Laws of the plain library, third part: texts out of texts. -/
set_option linter.unusedVariables false
namespace Go.Ev

theorem bytesOf_ints (s : S) : bytesOf s = ints s := rfl
theorem lowI (b : UInt8) : ((lowB b).toNat : Int) = if 65 ≤ (b.toNat : Int) ∧ (b.toNat : Int) ≤ 90 then (b.toNat : Int) + 32 else (b.toNat : Int) := by
  unfold lowB
  split
  · next h =>
    rw [if_pos (by omega)]
    have : (b + 32).toNat = b.toNat + 32 := by
      rw [UInt8.toNat_add]
      have : (32 : UInt8).toNat = 32 := rfl
      rw [this]
      omega
    omega
  · next h => rw [if_neg (by omega)]
theorem strOf_map (l : List UInt8) : strOf (l.map fun b => (b.toNat : Int)) = ob l := by
  unfold strOf ob
  congr 2
  rw [List.map_map]
  conv => rhs; rw [← List.map_id l]
  apply List.map_congr_left
  intro b _
  simp
theorem spec_Lower_ok (a0 : S) (h : pLower a0) : s_spec_Lower a0 (fun r => r = mLower a0) := by
  unfold pLower sm at h
  refine ⟨by omega, fun L hL => ?_⟩
  rw [bytesOf_ints]
  let f : List UInt8 → List Int := fun l => l.map fun b => (b.toNat : Int)
  have hl := bs_len a0
  refine loopG hL a0.size (fun i y => y.1 = (i : Int) ∧ y.2 = f (((bs a0).take i).map lowB ++ (bs a0).drop i)) (fun i y hi hI hn => ?_) (s0 := (0, ints a0)) ⟨rfl, by simp [f, ints]⟩
  obtain ⟨y1, y2⟩ := y
  simp only at hI ⊢
  obtain ⟨rfl, rfl⟩ := hI
  have hlen : (f (((bs a0).take i).map lowB ++ (bs a0).drop i)).length = a0.size := by
    simp only [f, List.length_map, List.length_append, List.length_take, List.length_drop]
    omega
  refine ⟨fun hlt => ?_, fun hge => ?_⟩
  · rw [hlen] at hlt ⊢
    have hi2 : i < a0.size := by omega
    have hi3 : i < (bs a0).length := by omega
    have hget : rx (f (((bs a0).take i).map lowB ++ (bs a0).drop i)) (i : Int) = ((bs a0)[i].toNat : Int) := by
      rw [rx_get _ (by rw [hlen]; exact hi2)]
      simp only [f, List.getElem_map]
      rw [List.getElem_append_right (by simp; omega)]
      simp only [List.length_map, List.length_take, List.getElem_drop]
      congr 3
      omega
    have hlow := lowI (bs a0)[i]
    have hb := (bs a0)[i].toNat_lt
    have hset : ∀ v : Int, v = ((lowB (bs a0)[i]).toNat : Int) → (f (((bs a0).take i).map lowB ++ (bs a0).drop i)).set ((i : Int).toNat) v = f (((bs a0).take (i + 1)).map lowB ++ (bs a0).drop (i + 1)) := fun v hv => by
      rw [hv, Int.toNat_natCast, take_succ_app hi3]
      simp only [f, List.map_append, List.map_cons, List.map_nil]
      rw [List.set_append_right _ _ (by simp; omega)]
      simp only [List.length_map, List.length_take]
      rw [show i - min i (bs a0).length = 0 by omega, ← List.getElem_cons_drop (h := hi3)]
      simp
    have hkeep : (bs a0)[i].toNat = (lowB (bs a0)[i]).toNat → f (((bs a0).take i).map lowB ++ (bs a0).drop i) = f (((bs a0).take (i + 1)).map lowB ++ (bs a0).drop (i + 1)) := fun hv => by
      rw [take_succ_app hi3]
      simp only [f, List.map_append, List.map_cons, List.map_nil]
      rw [← List.getElem_cons_drop (h := hi3)]
      simp only [List.map_cons, List.append_assoc, List.cons_append, List.nil_append, hv]
    have hw : IntKind.i64.wrap ((i : Int) + 1) = ((i + 1 : Nat) : Int) := wrapS (by omega)
    rw [hget, hw]
    refine ⟨by omega, by omega, fun h1 => ⟨by omega, by omega, fun h2 => ⟨by omega, by omega, by omega, by omega, ?_⟩, fun h2 => ?_⟩, fun h1 => ?_⟩
    · refine hn _ hi2 ⟨rfl, hset _ ?_⟩
      rw [hlow, if_pos ⟨h1, h2⟩, wrap8 (by omega) (by omega)]
    · refine hn _ hi2 ⟨rfl, hkeep ?_⟩
      rw [if_neg (by omega)] at hlow
      omega
    · refine hn _ hi2 ⟨rfl, hkeep ?_⟩
      rw [if_neg (by omega)] at hlow
      omega
  · rw [hlen] at hge
    have e : i = (bs a0).length := by omega
    rw [e, List.drop_length, List.take_length, List.append_nil]
    exact strOf_map _

theorem joinL_snoc (sep : S) : ∀ (vs : List S) (v : S), joinL sep (vs ++ [v]) = if vs = [] then v else joinL sep vs ++ sep ++ v
  | [], v => rfl
  | [x], v => rfl
  | x :: y :: r, v => by
    have ih := joinL_snoc sep (y :: r) v
    simp only [List.cons_append, joinL, reduceCtorEq, if_false] at ih ⊢
    rw [ih]
    apply bs_inj
    simp only [bs_append, List.append_assoc]
theorem joinL_size (sep : S) : ∀ (vs : List S), (joinL sep vs).size ≤ sumN (vs.map fun x => x.size) + vs.length * sep.size
  | [] => by show (lit []).size ≤ _; exact Nat.zero_le _
  | [x] => by simp only [joinL, List.map_cons, List.map_nil, sumN, List.length_singleton]; omega
  | x :: y :: r => by
    have ih := joinL_size sep (y :: r)
    simp only [joinL, size_append, List.map_cons, sumN, List.length_cons] at ih ⊢
    rw [Nat.succ_mul]
    omega
theorem sumN_append : ∀ (a b : List Nat), sumN (a ++ b) = sumN a + sumN b
  | [], b => by simp [sumN]
  | x :: a, b => by simp only [List.cons_append, sumN, sumN_append a b]; omega
theorem valuesOf_bound (n : S) : ∀ (l : List Fld), sumN ((valuesOf l n).map fun x => x.size) + (valuesOf l n).length ≤ cz l
  | [] => by simp [valuesOf, sumN]
  | f :: l => by
    have ih := valuesOf_bound n l
    simp only [valuesOf, cz_list, List.filter_cons, List.length_cons, List.map_cons, sumN, cz_pair, cz_str] at ih ⊢
    split
    · simp only [List.map_cons, sumN, List.length_cons]; omega
    · omega
theorem valuesOf_take (l : List Fld) (n : S) {i : Nat} (h : i < l.length) : valuesOf (l.take (i + 1)) n = if l[i].1 = n then valuesOf (l.take i) n ++ [l[i].2] else valuesOf (l.take i) n := by
  rw [take_succ_app h]
  unfold valuesOf
  rw [List.filter_append, List.map_append]
  by_cases e : l[i].1 = n
  · simp [e]
  · simp [e]
theorem sum_take' {α : Type} (c : α → Nat) (l : List α) (i : Nat) : sumN ((l.take i).map c) ≤ sumN (l.map c) := by
  have h : sumN (l.map c) = sumN ((l.take i).map c) + sumN ((l.drop i).map c) := by
    rw [← sumN_append, ← List.map_append, List.take_append_drop]
  omega
theorem cz_take {α : Type} [Cz α] (l : List α) (i : Nat) : cz (l.take i) ≤ cz l := by
  have h : sumN (l.map cz) = sumN ((l.take i).map cz) + sumN ((l.drop i).map cz) := by
    rw [← sumN_append, ← List.map_append, List.take_append_drop]
  simp only [cz_list, List.length_take]
  omega
theorem sep_size : (lit [44, 32]).size = 2 := rfl
theorem spec_FieldGet_ok (a0 : List Fld) (a1 : S) (h : pFieldGet a0 a1) : s_spec_FieldGet a0 a1 (fun r => r = mFieldGet a0 a1) := by
  intro L hL
  have hlen := md_len' h
  have hb : ∀ i, (joinL (lit [44, 32]) (valuesOf (a0.take i) a1)).size ≤ 3 * 1048576 := fun i => by
    have h1 := joinL_size (lit [44, 32]) (valuesOf (a0.take i) a1)
    have h2 := valuesOf_bound a1 (a0.take i)
    have h3 := cz_take a0 i
    have h4 : cz a0 ≤ 1048576 := h
    rw [sep_size] at h1
    omega
  refine loopG hL a0.length (fun i y => y.2.2 = (i : Int) ∧ y.1 = joinL (lit [44, 32]) (valuesOf (a0.take i) a1) ∧ y.2.1 = decide (valuesOf (a0.take i) a1 ≠ [])) (fun i y hi hI hn => ?_) (s0 := (lit [], false, 0)) ⟨rfl, rfl, rfl⟩
  obtain ⟨y1, y2, y3⟩ := y
  simp only at hI ⊢
  obtain ⟨rfl, rfl, rfl⟩ := hI
  refine ⟨fun hlt => ?_, fun hge => ?_⟩
  · have hi2 : i < a0.length := by omega
    have hv := valuesOf_take a0 a1 hi2
    have hval : cz a0[i] ≤ 1048576 := md_mem h (List.getElem_mem hi2)
    simp only [cz_pair, cz_str] at hval
    have hbi := hb i
    rw [rx_get a0 hi2, wrapS (by omega)]
    refine ⟨by omega, by omega, fun hne => hn _ hi2 ⟨rfl, ?_, ?_⟩, fun heq => ?_⟩
    · rw [hv, if_neg hne]
    · rw [hv, if_neg hne]
    · have heq : a0[i].1 = a1 := Classical.not_not.1 heq
      rw [if_pos heq] at hv
      refine ⟨fun hs => ?_, fun hs => ?_⟩
      · have hs := of_decide_eq_true hs
        refine ⟨by rw [sep_size]; omega, by omega, by omega, by rw [size_append, sep_size]; omega, hn _ hi2 ⟨rfl, ?_, ?_⟩⟩
        · rw [hv, joinL_snoc, if_neg hs]
        · rw [hv]; simp
      · have hs : valuesOf (a0.take i) a1 = [] := by simpa using hs
        refine ⟨by omega, by omega, by omega, hn _ hi2 ⟨rfl, ?_, ?_⟩⟩
        · rw [hv, hs, joinL_snoc, if_pos rfl]
          apply bs_inj; rw [bs_append]; rfl
        · rw [hv]; simp
  · have e : a0.take i = a0 := List.take_of_length_le (by omega)
    rw [e]
    unfold mFieldGet mJoin
    congr 1
    rw [decide_eq_decide]
    rw [List.length_pos_iff]
theorem pJoin_values (a0 : List Fld) (a1 : S) (h : pFieldGet a0 a1) : pJoin (valuesOf a0 a1) (lit [44, 32]) := by
  have h2 := valuesOf_bound a1 a0
  have h4 : cz a0 ≤ 1048576 := h
  exact ⟨by omega, by omega, by rw [sep_size]; omega⟩
theorem impl_FieldGet_ok (a0 : List Fld) (a1 : S) (h : pFieldGet a0 a1) : s_impl_FieldGet a0 a1 (fun r => r = mFieldGet a0 a1) := by
  intro L hL
  have hlen := md_len' h
  refine loopG hL a0.length (fun i y => y.2 = (i : Int) ∧ y.1 = valuesOf (a0.take i) a1) (fun i y hi hI hn => ?_) (s0 := ([], 0)) ⟨rfl, rfl⟩
  obtain ⟨y1, y2⟩ := y
  simp only at hI ⊢
  obtain ⟨rfl, rfl⟩ := hI
  refine ⟨fun hlt => ?_, fun hge => ?_⟩
  · have hi2 : i < a0.length := by omega
    have hv := valuesOf_take a0 a1 hi2
    have h2 := valuesOf_bound a1 (a0.take i)
    have h3 := cz_take a0 i
    have h4 : cz a0 ≤ 1048576 := h
    rw [rx_get a0 hi2, wrapS (by omega)]
    refine ⟨by omega, by omega, fun he => ⟨by simp only [List.length_singleton]; omega, hn _ hi2 ⟨rfl, by rw [hv, if_pos he]⟩⟩, fun hne => hn _ hi2 ⟨rfl, by rw [hv, if_neg hne]⟩⟩
  · have e : a0.take i = a0 := List.take_of_length_le (by omega)
    rw [e]
    refine ⟨pJoin_values a0 a1 h, ?_⟩
    unfold mFieldGet
    congr 1
    rw [decide_eq_decide]
    omega
theorem fieldGet_size (a0 : List Fld) (a1 : S) (h : pFieldGet a0 a1) : (mFieldGet a0 a1).1.size ≤ 3 * 1048576 := by
  have h1 := joinL_size (lit [44, 32]) (valuesOf a0 a1)
  have h2 := valuesOf_bound a1 a0
  have h4 : cz a0 ≤ 1048576 := h
  rw [sep_size] at h1
  unfold mFieldGet mJoin
  simp only
  omega

theorem partsL_nil (q : Bool) (cur : List UInt8) : partsL q cur [] = [cur] := by cases q <;> rfl
theorem partsL_one (cur : List UInt8) (b : UInt8) : partsL true cur [b] = [cur ++ [b]] := rfl
theorem partsL_in (cur : List UInt8) (b c : UInt8) (r : List UInt8) : partsL true cur (b :: c :: r) = if b = 34 then partsL false (cur ++ [b]) (c :: r) else if b = 92 then partsL true (cur ++ [b, c]) r else partsL true (cur ++ [b]) (c :: r) := by rw [partsL]
theorem partsL_out (cur : List UInt8) (b : UInt8) (r : List UInt8) : partsL false cur (b :: r) = if b = 34 then partsL true (cur ++ [b]) r else if b = 44 then cur :: partsL false [] r else partsL false (cur ++ [b]) r := by rw [partsL]
theorem partsL_bound : ∀ (q : Bool) (cur l : List UInt8), sumN ((partsL q cur l).map List.length) ≤ cur.length + l.length ∧ (partsL q cur l).length ≤ l.length + 1
  | q, cur, [] => by rw [partsL_nil]; simp [sumN]
  | true, cur, [b] => by rw [partsL_one]; simp [sumN]
  | true, cur, b :: c :: r => by
    rw [partsL_in]
    split
    · have := partsL_bound false (cur ++ [b]) (c :: r)
      simp only [List.length_append, List.length_cons, List.length_nil] at this ⊢
      omega
    · split
      · have := partsL_bound true (cur ++ [b, c]) r
        simp only [List.length_append, List.length_cons, List.length_nil] at this ⊢
        omega
      · have := partsL_bound true (cur ++ [b]) (c :: r)
        simp only [List.length_append, List.length_cons, List.length_nil] at this ⊢
        omega
  | false, cur, b :: r => by
    rw [partsL_out]
    split
    · have := partsL_bound true (cur ++ [b]) r
      simp only [List.length_append, List.length_cons, List.length_nil] at this ⊢
      omega
    · split
      · have := partsL_bound false [] r
        simp only [List.length_append, List.length_cons, List.length_nil, List.map_cons, sumN] at this ⊢
        omega
      · have := partsL_bound false (cur ++ [b]) r
        simp only [List.length_append, List.length_cons, List.length_nil] at this ⊢
        omega
theorem dropWhile_le {α : Type} (p : α → Bool) (l : List α) : (l.dropWhile p).length ≤ l.length := (List.dropWhile_sublist p).length_le
theorem trimS_le (l cs : List UInt8) : (Lib.trimS l cs).length ≤ l.length := by
  unfold Lib.trimS Lib.trimLeftS Lib.trimRightS
  have h1 := dropWhile_le (cs.contains ·) ((l.reverse.dropWhile (cs.contains ·)).reverse)
  have h2 := dropWhile_le (cs.contains ·) l.reverse
  simp only [List.length_reverse] at h1 h2
  omega
theorem mTrim_le (s : S) : (mTrim s).size ≤ s.size := by
  unfold mTrim
  rw [ob_size, ← bs_len]
  exact trimS_le _ _
theorem trimmed_bound : ∀ (l : List (List UInt8)), sumN ((trimmed l).map fun x => x.size) ≤ sumN (l.map List.length) ∧ (trimmed l).length ≤ l.length
  | [] => by simp [trimmed, sumN]
  | p :: l => by
    have ih := trimmed_bound l
    have h := mTrim_le (ob p)
    rw [ob_size] at h
    simp only [trimmed, List.map_cons, List.filter_cons] at ih ⊢
    split
    · simp only [List.map_cons, sumN, List.length_cons]; omega
    · simp only [sumN, List.length_cons]; omega
theorem splitList_bound (s : S) : sumN ((mSplitList s).map fun x => x.size) ≤ s.size ∧ (mSplitList s).length ≤ s.size + 1 := by
  have h1 := partsL_bound false [] (bs s)
  have h2 := trimmed_bound (partsL false [] (bs s))
  rw [bs_len] at h1
  unfold mSplitList
  simp only [List.length_nil] at h1
  omega
theorem splitList_mem {s x : S} (h : x ∈ mSplitList s) : x.size ≤ s.size := by
  have h1 := (splitList_bound s).1
  have h2 := sumN_mem (List.mem_map.2 ⟨x, h, rfl⟩ : x.size ∈ (mSplitList s).map fun x => x.size)
  omega
theorem pJoin_parts (a0 : S) (h : a0.size ≤ 1048576 * 16) : pJoin (mSplitList a0) (lit [44, 32]) := by
  have hb := splitList_bound a0
  exact ⟨by omega, by omega, by rw [sep_size]; omega⟩
theorem impl_Normal_ok (a0 : S) (h : pNormal a0) : s_impl_Normal a0 (fun r => r = mNormal a0) := by
  unfold pNormal at h
  exact ⟨by unfold pSplitList sm; omega, pJoin_parts a0 (by omega), rfl⟩
theorem spec_Normal_ok (a0 : S) (h : pNormal a0) : s_spec_Normal a0 (fun r => r = mNormal a0) := by
  unfold pNormal at h
  refine ⟨by unfold pSplitList sm; omega, fun L hL => ?_⟩
  have hb := splitList_bound a0
  have hsz : ∀ i, (joinL (lit [44, 32]) ((mSplitList a0).take i)).size ≤ a0.size + 2 * (a0.size + 1) := fun i => by
    have h1 := joinL_size (lit [44, 32]) ((mSplitList a0).take i)
    have h2 : sumN (((mSplitList a0).take i).map fun x => x.size) ≤ sumN ((mSplitList a0).map fun x => x.size) := sum_take' (fun x : S => x.size) _ _
    rw [sep_size, List.length_take] at h1
    omega
  refine loopG hL (mSplitList a0).length (fun i y => y.2 = (i : Int) ∧ y.1 = joinL (lit [44, 32]) ((mSplitList a0).take i)) (fun i y hi hI hn => ?_) (s0 := (lit [], 0)) ⟨rfl, rfl⟩
  obtain ⟨y1, y2⟩ := y
  simp only at hI ⊢
  obtain ⟨rfl, rfl⟩ := hI
  have hs := hsz i
  refine ⟨fun hlt => ?_, fun hge => ?_⟩
  · have hi2 : i < (mSplitList a0).length := by omega
    have hx := splitList_mem (List.getElem_mem hi2)
    have hj := joinL_snoc (lit [44, 32]) ((mSplitList a0).take i) (mSplitList a0)[i]
    rw [← take_succ_app hi2] at hj
    rw [rx_get _ hi2, wrapS (by omega)]
    refine ⟨fun h0 => ⟨by rw [sep_size]; omega, by omega, by omega, by rw [size_append, sep_size]; omega, hn _ hi2 ⟨rfl, ?_⟩⟩, fun h0 => ⟨by omega, by omega, by omega, hn _ hi2 ⟨rfl, ?_⟩⟩⟩
    · rw [hj, if_neg]
      intro e
      have := congrArg List.length e
      simp only [List.length_take, List.length_nil] at this
      omega
    · have e : i = 0 := by omega
      subst e
      rw [hj, List.take_zero, if_pos rfl]
      apply bs_inj; rw [bs_append]; rfl
  · have e : (mSplitList a0).take i = mSplitList a0 := List.take_of_length_le (by omega)
    rw [e]; rfl

end Go.Ev
end

section
/- Laws of the plain library, fourth part: parts of texts. -/
set_option linter.unusedVariables false
namespace Go.Ev

def blk (b : UInt8) : Bool := [(32 : UInt8), 9].contains b
theorem blk_iff (b : UInt8) : blk b = true ↔ mBlank (b.toNat : Int) = true := by
  have h : ∀ n : Fin 256, (blk (UInt8.ofNat n.val) = true) ↔ mBlank (n.val : Int) = true := by decide +kernel
  have := h ⟨b.toNat, b.toNat_lt⟩
  simpa using this
theorem trimS_cons {b : UInt8} (h : blk b = true) (l : List UInt8) : Lib.trimS (b :: l) [32, 9] = Lib.trimS l [32, 9] := by
  have h' : [(32 : UInt8), 9].contains b = true := h
  unfold Lib.trimS Lib.trimLeftS Lib.trimRightS
  rw [List.reverse_cons, List.dropWhile_append]
  split
  · next hd =>
    have hd : l.reverse.dropWhile (fun x => [(32 : UInt8), 9].contains x) = [] := by simpa using hd
    rw [hd]
    have : List.dropWhile (fun x => [(32 : UInt8), 9].contains x) [b] = [] := by
      rw [List.dropWhile_cons, if_pos h']; rfl
    rw [this]
  · rw [List.reverse_append, List.reverse_singleton, List.singleton_append, List.dropWhile_cons, if_pos h']
theorem trimS_snoc {b : UInt8} (h : blk b = true) (l : List UInt8) : Lib.trimS (l ++ [b]) [32, 9] = Lib.trimS l [32, 9] := by
  have h' : [(32 : UInt8), 9].contains b = true := h
  unfold Lib.trimS Lib.trimRightS
  rw [List.reverse_append, List.reverse_singleton, List.singleton_append, List.dropWhile_cons, if_pos h']
theorem trimS_id {l : List UInt8} (h0 : ∀ b, l.head? = some b → blk b = false) (h1 : ∀ b, l.getLast? = some b → blk b = false) : Lib.trimS l [32, 9] = l := by
  have key : ∀ l : List UInt8, (∀ b, l.head? = some b → blk b = false) → l.dropWhile (fun x => [(32 : UInt8), 9].contains x) = l := fun l h => by
    cases l with
    | nil => rfl
    | cons b r =>
      rw [List.dropWhile_cons, if_neg]
      have := h b rfl
      unfold blk at this
      rw [this]; simp
  unfold Lib.trimS Lib.trimLeftS Lib.trimRightS
  rw [key l.reverse (fun b hb => h1 b (by rw [List.head?_reverse] at hb; exact hb)), List.reverse_reverse, key l h0]
theorem spec_Trim_ok (a0 : S) (h : pTrim a0) : s_spec_Trim a0 (fun r => r = mTrim a0) := by
  unfold pTrim sm at h
  -- the second loop
  have back : ∀ y : S, y.size ≤ a0.size → mTrim y = mTrim a0 → (∀ b, (bs y).head? = some b → blk b = false) → ∀ L2 : S → Prop,
      (∀ y3 : S, ((0 < (y3.size : Int) → 0 ≤ IntKind.i64.wrap ((y3.size : Int) - 1) ∧ IntKind.i64.wrap ((y3.size : Int) - 1) < (y3.size : Int) ∧ pBlank (bt y3 (IntKind.i64.wrap ((y3.size : Int) - 1))) ∧
          (mBlank (bt y3 (IntKind.i64.wrap ((y3.size : Int) - 1))) = true → 0 ≤ IntKind.i64.wrap ((y3.size : Int) - 1) ∧ IntKind.i64.wrap ((y3.size : Int) - 1) ≤ (y3.size : Int) ∧ L2 (y3.extract 0 (IntKind.i64.wrap ((y3.size : Int) - 1)).toNat)) ∧
          (¬ mBlank (bt y3 (IntKind.i64.wrap ((y3.size : Int) - 1))) = true → y3 = mTrim a0)) ∧
        (¬ 0 < (y3.size : Int) → y3 = mTrim a0)) → L2 y3) → L2 y := by
    intro y hy hm hh L2 hL
    refine loopI hL (fun y => y.size ≤ a0.size ∧ mTrim y = mTrim a0 ∧ ∀ b, (bs y).head? = some b → blk b = false) (fun y => y.size) (fun y ⟨hy, hm, hh⟩ ih => ?_) y ⟨hy, hm, hh⟩
    refine ⟨fun h0 => ?_, fun h0 => ?_⟩
    · have hpos : 0 < y.size := by omega
      have hw : IntKind.i64.wrap ((y.size : Int) - 1) = ((y.size - 1 : Nat) : Int) := by rw [wrap64 (by omega) (by omega)]; omega
      rw [hw]
      have hlen := bs_len y
      have hb := bt_nat y (y.size - 1) (by omega)
      have hlast : (bs y).getLast? = some ((bs y)[y.size - 1]'(by omega)) := by
        rw [List.getLast?_eq_getElem?]
        simp only [hlen]
        exact List.getElem?_eq_getElem _
      refine ⟨by omega, by omega, trivial, fun hbl => ⟨by omega, by omega, ?_⟩, fun hbl => ?_⟩
      · rw [Int.toNat_natCast]
        have hcut : bs (y.extract 0 (y.size - 1)) = (bs y).take (y.size - 1) := by rw [bs_extract]; simp
        have hspl : bs y = (bs y).take (y.size - 1) ++ [(bs y)[y.size - 1]'(by omega)] := by
          rw [← take_succ_app (by omega), List.take_of_length_le (by omega)]
        refine ih _ ⟨?_, ?_, fun b hb2 => ?_⟩ ?_
        · rw [← bs_len, hcut, List.length_take]; omega
        · rw [← hm]
          unfold mTrim
          rw [hcut]
          conv => rhs; rw [hspl]
          rw [trimS_snoc]
          rw [blk_iff, ← hb]; exact hbl
        · rw [hcut] at hb2
          refine hh b ?_
          rw [hspl]
          cases hx : (bs y).take (y.size - 1) with
          | nil => rw [hx] at hb2; cases hb2
          | cons c r => rw [hx] at hb2; simpa using hb2
        · rw [← bs_len, hcut, List.length_take]; omega
      · rw [← hm]
        unfold mTrim
        rw [trimS_id hh]
        · rfl
        · intro b hb2
          rw [hlast] at hb2
          injection hb2 with hb2
          rw [← hb2]
          cases hx : blk (bs y)[y.size - 1] with
          | false => rfl
          | true =>
            rw [blk_iff, ← hb] at hx
            exact absurd hx hbl
    · rw [← hm]
      have : bs y = [] := List.eq_nil_of_length_eq_zero (by rw [bs_len]; omega)
      apply bs_inj
      unfold mTrim
      rw [this]; rfl
  intro L hL
  refine loopI hL (fun y => y.size ≤ a0.size ∧ mTrim y = mTrim a0) (fun y => y.size) (fun y ⟨hy, hm⟩ ih => ?_) a0 ⟨Nat.le_refl _, rfl⟩
  have hlen := bs_len y
  refine ⟨fun h0 => ?_, fun h0 => ?_⟩
  · have hpos : 0 < y.size := by omega
    have hb := bt_nat y 0 hpos
    have hcons : bs y = (bs y)[0]'(by omega) :: (bs y).drop 1 := by
      conv => lhs; rw [← List.drop_zero (l := bs y)]
      exact (List.getElem_cons_drop (h := by omega)).symm
    refine ⟨by omega, by omega, trivial, fun hbl => ⟨by omega, by omega, ?_⟩, fun hbl L2 hL2 => ?_⟩
    · have hcut : bs (y.extract ((1 : Int).toNat) y.size) = (bs y).drop 1 := by
        rw [bs_extract]
        exact List.take_of_length_le (by rw [List.length_drop, hlen]; omega)
      refine ih _ ⟨?_, ?_⟩ ?_
      · rw [← bs_len, hcut, List.length_drop]; omega
      · rw [← hm]
        unfold mTrim
        rw [hcut]
        conv => rhs; rw [hcons]
        rw [trimS_cons]
        rw [blk_iff, ← hb]; exact hbl
      · rw [← bs_len, hcut, List.length_drop]; omega
    · refine back y hy hm (fun b hb2 => ?_) L2 hL2
      rw [hcons] at hb2
      injection hb2 with hb2
      rw [← hb2]
      cases hx : blk (bs y)[0] with
      | false => rfl
      | true =>
        rw [blk_iff, ← hb] at hx
        exact absurd hx hbl
  · intro L2 hL2
    refine back y hy hm (fun b hb2 => ?_) L2 hL2
    have : bs y = [] := List.eq_nil_of_length_eq_zero (by omega)
    rw [this] at hb2; cases hb2

theorem onceL_append : ∀ (out a b : List S), onceL out (a ++ b) = onceL (onceL out a) b
  | out, [], b => rfl
  | out, x :: a, b => by
    simp only [List.cons_append, onceL]
    exact onceL_append _ a b
theorem onceL_len : ∀ (out a : List S), (onceL out a).length ≤ out.length + a.length
  | out, [] => by simp [onceL]
  | out, x :: a => by
    simp only [onceL, List.length_cons]
    have := onceL_len (if out.any (fun y => decide (x = y)) then out else out ++ [x]) a
    split at this
    · rename_i h; rw [if_pos h]; omega
    · rename_i h; rw [if_neg h]; simp only [List.length_append, List.length_singleton] at this; omega
theorem onceL_snoc (out l : List S) (x : S) : onceL out (l ++ [x]) = if (onceL out l).any (fun y => decide (x = y)) then onceL out l else onceL out l ++ [x] := by
  rw [onceL_append]; rfl
theorem impl_VaryNames_ok (a0 : Rsp) (h : pVaryNames a0) : s_impl_VaryNames a0 (fun r => r = mVaryNames a0) := by
  have hc : lit [118, 97, 114, 121] = sVary := rfl
  unfold s_impl_VaryNames
  rw [hc]
  have hf := fieldGet_size a0.2.1 sVary h
  have hsp := splitList_bound (mFieldGet a0.2.1 sVary).1
  refine ⟨h, by unfold pSplitList sm; omega, fun L hL => ?_⟩
  generalize hl : mSplitList (mFieldGet a0.2.1 sVary).1 = l at hL hsp
  have hm : mVaryNames a0 = onceL [] (l.map mLower) := by unfold mVaryNames; rw [hl]
  have hmem : ∀ x ∈ l, sm x := fun x hx => by
    rw [← hl] at hx
    have := splitList_mem hx
    unfold sm; omega
  refine loopG hL l.length (fun i y => y.2 = (i : Int) ∧ y.1 = onceL [] ((l.take i).map mLower)) (fun i y hi hI hn => ?_) (s0 := ([], 0)) ⟨rfl, rfl⟩
  obtain ⟨y1, y2⟩ := y
  simp only at hI ⊢
  obtain ⟨rfl, rfl⟩ := hI
  have hlen := onceL_len [] ((l.take i).map mLower)
  simp only [List.length_nil, List.length_map, List.length_take] at hlen
  refine ⟨fun hlt => ?_, fun hge => ?_⟩
  · have hi2 : i < l.length := by omega
    have hs := onceL_snoc [] ((l.take i).map mLower) (mLower l[i])
    rw [← List.map_singleton (f := mLower), ← List.map_append, ← take_succ_app hi2] at hs
    rw [rx_get _ hi2, wrapS (by omega)]
    refine ⟨by omega, by omega, hmem _ (List.getElem_mem hi2), by unfold pContains_string; simp only [maxLen]; omega, fun hc => ⟨by simp only [List.length_singleton]; omega, hn _ hi2 ⟨rfl, ?_⟩⟩, fun hc => hn _ hi2 ⟨rfl, ?_⟩⟩
    · unfold mContains_string at hc
      rw [hs, if_neg hc]; rfl
    · unfold mContains_string at hc
      rw [hs, if_pos (Classical.not_not.1 hc)]
  · have e : l.take i = l := List.take_of_length_le (by omega)
    rw [e, hm]
theorem spec_VaryNames_ok (a0 : Rsp) (h : pVaryNames a0) : s_spec_VaryNames a0 (fun r => r = mVaryNames a0) := by
  have hc : lit [118, 97, 114, 121] = sVary := rfl
  unfold s_spec_VaryNames
  rw [hc]
  have hf := fieldGet_size a0.2.1 sVary h
  have hsp := splitList_bound (mFieldGet a0.2.1 sVary).1
  refine ⟨h, by unfold pSplitList sm; omega, fun L hL => ?_⟩
  generalize hl : mSplitList (mFieldGet a0.2.1 sVary).1 = l at hL hsp
  have hm : mVaryNames a0 = onceL [] (l.map mLower) := by unfold mVaryNames; rw [hl]
  have hmem : ∀ x ∈ l, sm x := fun x hx => by
    rw [← hl] at hx
    have := splitList_mem hx
    unfold sm; omega
  refine loopG hL l.length (fun i y => y.2 = (i : Int) ∧ y.1 = onceL [] ((l.take i).map mLower)) (fun i y hi hI hn => ?_) (s0 := ([], 0)) ⟨rfl, rfl⟩
  obtain ⟨y1, y2⟩ := y
  simp only at hI ⊢
  obtain ⟨rfl, rfl⟩ := hI
  have hlen := onceL_len [] ((l.take i).map mLower)
  simp only [List.length_nil, List.length_map, List.length_take] at hlen
  refine ⟨fun hlt => ?_, fun hge => ?_⟩
  · have hi2 : i < l.length := by omega
    have hs := onceL_snoc [] ((l.take i).map mLower) (mLower l[i])
    rw [← List.map_singleton (f := mLower), ← List.map_append, ← take_succ_app hi2] at hs
    rw [rx_get _ hi2, wrapS (by omega)]
    refine ⟨by omega, by omega, hmem _ (List.getElem_mem hi2), fun L2 hL2 => ?_⟩
    generalize ho : onceL [] ((l.take i).map mLower) = out at hL2 hs hlen
    refine loopG hL2 out.length (fun k y => y.2 = (k : Int) ∧ y.1 = (out.take k).any (fun y => decide (mLower l[i] = y))) (fun k y hk hI2 hn2 => ?_) (s0 := (false, 0)) ⟨rfl, rfl⟩
    obtain ⟨y3, y4⟩ := y
    simp only at hI2 ⊢
    obtain ⟨rfl, rfl⟩ := hI2
    refine ⟨fun hlt2 => ?_, fun hge2 => ?_⟩
    · have hk2 : k < out.length := by omega
      have ht : (out.take (k + 1)).any (fun y => decide (mLower l[i] = y)) = ((out.take k).any (fun y => decide (mLower l[i] = y)) || decide (mLower l[i] = out[k])) := by
        rw [take_succ_app hk2, List.any_append]; simp
      rw [wrapS (by omega)]
      refine ⟨fun hc => hn2 _ hk2 ⟨rfl, by rw [ht, hc]; rfl⟩, fun hc => ⟨by omega, by omega, hn2 _ hk2 ⟨rfl, ?_⟩⟩⟩
      rw [ht, rx_get out hk2]
      rw [Bool.not_eq_true] at hc
      rw [hc, Bool.false_or]
      exact decide_eq_decide.2 ⟨Eq.symm, Eq.symm⟩
    · have e : out.take k = out := List.take_of_length_le (by omega)
      rw [e]
      refine ⟨fun hc => ⟨by simp only [List.length_singleton]; omega, hn _ hi2 ⟨rfl, ?_⟩⟩, fun hc => hn _ hi2 ⟨rfl, ?_⟩⟩
      · rw [hs, if_neg hc]; rfl
      · rw [hs, if_pos (Classical.not_not.1 hc)]
  · have e : l.take i = l := List.take_of_length_le (by omega)
    rw [e, hm]
theorem varyNames_len (r : Rsp) (h : pVaryNames r) : (mVaryNames r).length ≤ 3 * 1048576 + 1 := by
  have hf := fieldGet_size r.2.1 sVary h
  have hsp := splitList_bound (mFieldGet r.2.1 sVary).1
  have := onceL_len [] ((mSplitList (mFieldGet r.2.1 sVary).1).map mLower)
  simp only [List.length_nil, List.length_map] at this
  unfold mVaryNames
  omega
theorem filterMap_take {α β : Type} (f : α → Option β) (l : List α) {i : Nat} (h : i < l.length) : (l.take (i + 1)).filterMap f = (l.take i).filterMap f ++ (match f l[i] with | some y => [y] | none => []) := by
  rw [take_succ_app h, List.filterMap_append]
  congr 1
  cases hf : f l[i] with
  | none => simp [hf]
  | some y => simp [hf]
theorem spec_Picked_ok (a0 : Req) (a1 : Rsp) (h : pPicked a0 a1) : s_spec_Picked a0 a1 (fun r => r = mPicked a0 a1) := by
  have hv := varyNames_len a1 h.2
  refine ⟨h.2, fun L hL => ?_⟩
  refine loopG hL (mVaryNames a1).length (fun i y => y.2 = (i : Int) ∧ y.1 = ((mVaryNames a1).take i).filterMap (pickOf a0)) (fun i y hi hI hn => ?_) (s0 := ([], 0)) ⟨rfl, rfl⟩
  obtain ⟨y1, y2⟩ := y
  simp only at hI ⊢
  obtain ⟨rfl, rfl⟩ := hI
  have hlen := List.length_filterMap_le (pickOf a0) ((mVaryNames a1).take i)
  rw [List.length_take] at hlen
  refine ⟨fun hlt => ?_, fun hge => ?_⟩
  · have hi2 : i < (mVaryNames a1).length := by omega
    have hs := filterMap_take (pickOf a0) (mVaryNames a1) hi2
    have hsz := fieldGet_size a0.2.2.1 (mVaryNames a1)[i] h.1
    rw [rx_get _ hi2, wrapS (by omega)]
    refine ⟨by omega, by omega, h.1, fun hc => ?_, fun hc => hn _ hi2 ⟨rfl, ?_⟩⟩
    · refine ⟨by omega, by omega, by unfold pNormal; omega, by simp only [List.length_singleton]; omega, hn _ hi2 ⟨rfl, ?_⟩⟩
      rw [hs]
      unfold pickOf
      rw [if_pos hc]
    · rw [hs]
      have : pickOf a0 (mVaryNames a1)[i] = none := by unfold pickOf; rw [if_neg hc]
      rw [this]; simp
  · have e : (mVaryNames a1).take i = mVaryNames a1 := List.take_of_length_le (by omega)
    rw [e]; rfl
theorem impl_Picked_ok (a0 : Req) (a1 : Rsp) (h : pPicked a0 a1) : s_impl_Picked a0 a1 (fun r => r = mPicked a0 a1) := by
  have hv := varyNames_len a1 h.2
  refine ⟨h.2, fun L hL => ?_⟩
  refine loopG hL (mVaryNames a1).length (fun i y => y.2 = (i : Int) ∧ y.1 = ((mVaryNames a1).take i).filterMap (pickOf a0)) (fun i y hi hI hn => ?_) (s0 := ([], 0)) ⟨rfl, rfl⟩
  obtain ⟨y1, y2⟩ := y
  simp only at hI ⊢
  obtain ⟨rfl, rfl⟩ := hI
  have hlen := List.length_filterMap_le (pickOf a0) ((mVaryNames a1).take i)
  rw [List.length_take] at hlen
  refine ⟨fun hlt => ?_, fun hge => ?_⟩
  · have hi2 : i < (mVaryNames a1).length := by omega
    have hs := filterMap_take (pickOf a0) (mVaryNames a1) hi2
    have hsz := fieldGet_size a0.2.2.1 (mVaryNames a1)[i] h.1
    rw [rx_get _ hi2, wrapS (by omega)]
    refine ⟨by omega, by omega, h.1, fun hc => ?_, fun hc => hn _ hi2 ⟨rfl, ?_⟩⟩
    · refine ⟨by unfold pNormal; omega, by simp only [List.length_singleton]; omega, hn _ hi2 ⟨rfl, ?_⟩⟩
      rw [hs]
      unfold pickOf
      rw [if_pos hc]
    · rw [hs]
      have : pickOf a0 (mVaryNames a1)[i] = none := by unfold pickOf; rw [if_neg hc]
      rw [this]; simp
  · have e : (mVaryNames a1).take i = mVaryNames a1 := List.take_of_length_le (by omega)
    rw [e]; rfl
theorem picked_len (q : Req) (r : Rsp) (h : pPicked q r) : (mPicked q r).length ≤ 3 * 1048576 + 1 := by
  have := List.length_filterMap_le (pickOf q) (mVaryNames r)
  have := varyNames_len r h.2
  unfold mPicked
  omega
theorem spec_VaryFits_ok (a0 : Req) (a1 : Rsp) (a2 : List Fld) (h : pVaryFits a0 a1 a2) : s_spec_VaryFits a0 a1 a2 (fun r => r = mVaryFits a0 a1 a2) := by
  have := picked_len a0 a1 h
  exact ⟨h, by unfold pSameFields; simp only [maxLen]; omega, rfl⟩
theorem impl_VaryFits_ok (a0 : Req) (a1 : Rsp) (a2 : List Fld) (h : pVaryFits a0 a1 a2) : s_impl_VaryFits a0 a1 a2 (fun r => r = mVaryFits a0 a1 a2) := spec_VaryFits_ok a0 a1 a2 h
end Go.Ev
end

section
/- Laws of the plain library: the laws' marks. -/
set_option linter.unusedVariables false
namespace Go.Ev
theorem laws_markText_ok (a0 : Int) (h : pMarkText a0) : s_laws_markText a0 (fun r => r = mMarkText a0) := by
  obtain ⟨ha, hb⟩ := h
  have hlen := Lib.itoa_length_le a0 ha hb
  refine ⟨fun h0 => by unfold mMarkText; rw [if_pos h0], fun h0 => fun L hL => ?_⟩
  refine loopI hL (fun y => in64 y.1 ∧ 0 ≤ y.1 ∧ decLeft y.1 ++ bs y.2 = Lib.decDigits a0.natAbs) (fun y => y.1.natAbs) (fun y hI ih => ?_) (a0, lit []) ⟨⟨ha, hb⟩, by simp only; omega, by unfold decLeft; rw [if_neg (by simp only; omega), bs_lit]; simp⟩
  obtain ⟨n, s⟩ := y
  obtain ⟨h64, hp, he⟩ := hI
  simp only at h64 hp he ⊢
  have hl : (Lib.decDigits a0.natAbs).length ≤ 21 := by
    unfold Lib.itoa at hlen
    rw [if_neg (by omega), show a0.toNat = a0.natAbs by omega] at hlen
    exact hlen
  have hs : s.size ≤ 21 := by rw [← bs_len]; rw [← he, List.length_append] at hl; omega
  have ht := td10 n
  have d64 : in64 (n.tdiv 10) := by obtain ⟨a, b⟩ := h64; constructor <;> omega
  have wd : IntKind.i64.wrap (n.tdiv 10) = n.tdiv 10 := wrap64 (by have := d64.1; omega) (by have := d64.2; omega)
  have h1 : (ob [UInt8.ofNat (48 + n.natAbs % 10)]).size = 1 := ob_size _
  have h2 : (lit [109]).size = 1 := rfl
  rw [wd]
  refine ⟨fun hne => ?_, fun hle => ?_⟩
  · rw [digit_pos h64 (by omega), h1]
    refine ⟨by decide, by omega, by decide, ih _ ⟨d64, by simp only; omega, ?_⟩ (by simp only; omega)⟩
    simp only
    rw [bs_append, bs_ob, ← List.append_assoc, ← decLeft_step (by omega), he]
  · have h00 : n = 0 := by omega
    subst h00
    rw [h2]
    refine ⟨by omega, ?_⟩
    unfold mMarkText mDec mItoa
    rw [if_neg h0]
    congr 1
    apply bs_inj
    rw [bs_ob]
    unfold Lib.itoa
    rw [if_neg (by omega), show a0.toNat = a0.natAbs by omega, ← he]
    unfold decLeft
    simp
theorem take_set_succ {α : Type} {xs ys : List α} {i : Nat} {f : α} (hx : i < xs.length) (hy : i < ys.length) (h : xs.take i = ys.take i) (hf : ys[i] = f) : (xs.set i f).take (i + 1) = ys.take (i + 1) := by
  rw [List.take_add_one, List.take_add_one, List.getElem?_set_self hx, List.getElem?_eq_getElem hy, hf, ← h]
  congr 1
  apply List.ext_getElem?
  intro j
  rw [List.getElem?_take, List.getElem?_take]
  split
  · rw [List.getElem?_set_ne (by omega)]
  · rfl
theorem laws_markFieldS_ok (a0 : List Fld) (a1 : Int) (h : pMarkFieldS a0 a1) : s_laws_markFieldS a0 a1 (fun r y => r = mMarkFieldS a0 a1 ∧ y = wMarkFieldS a0 a1) := by
  obtain ⟨k0, k1, hn⟩ := h
  intro L hL
  refine loopI hL (fun y => ∃ i : Nat, i ≤ a0.length ∧ y.2.1 = (i : Int) ∧ y.1 = a1 + 2 * i ∧ y.2.2.length = a0.length ∧ y.2.2.take i = (markFld a0 a1).take i) (fun y => a0.length + 1 - y.2.1.toNat) (fun y hI ih => ?_) (a1, 0, a0) ⟨0, by omega, rfl, by simp, rfl, by simp⟩
  obtain ⟨k, i', xs⟩ := y
  obtain ⟨i, hi, hy, hk, hl, ht⟩ := hI
  simp only at hy hk hl ht ⊢
  subst hy hk
  have hm := markFld_length a0 a1
  have w1 : IntKind.i64.wrap (a1 + 2 * (i : Int) + 1) = a1 + 2 * i + 1 := wrap64 (by omega) (by omega)
  have w2 : IntKind.i64.wrap (a1 + 2 * (i : Int) + 1 + 1) = a1 + 2 * ((i + 1 : Nat) : Int) := by rw [wrap64 (by omega) (by omega)]; omega
  have w3 : IntKind.i64.wrap ((i : Int) + 1) = ((i + 1 : Nat) : Int) := wrapS (by omega)
  rw [w1, w2, w3]
  refine ⟨fun hlt => ?_, fun hge => ?_⟩
  · have hlt' : i < xs.length := by omega
    refine ⟨⟨by omega, by omega⟩, by omega, hlt, ⟨by omega, by omega⟩, by omega, by rw [List.length_set]; exact hlt, ?_⟩
    refine ih _ ⟨i + 1, by omega, rfl, rfl, by simp [hl], ?_⟩ (by simp only [Int.toNat_natCast]; omega)
    simp only [Int.toNat_natCast]
    have e1 : (rx (xs.set i (mMarkText (a1 + 2 * (i : Int)), (rx xs (i : Int)).2)) (i : Int)).1 = mMarkText (a1 + 2 * (i : Int)) := by
      rw [rx_get _ (by rw [List.length_set]; exact hlt'), List.getElem_set_self]
    rw [e1, List.set_set]
    exact take_set_succ hlt' (by omega) ht (markFld_get a0 a1 i (by omega))
  · have hie : i = a0.length := by omega
    subst hie
    refine ⟨rfl, ?_⟩
    unfold wMarkFieldS
    rw [List.take_of_length_le (by omega), List.take_of_length_le (by omega)] at ht
    rw [ht]
theorem laws_heldFieldS_ok (a0 : List Fld) (a1 : Int) (h : pHeldFieldS a0 a1) : s_laws_heldFieldS a0 a1 (fun r => r = mHeldFieldS a0 a1) := by
  obtain ⟨k0, k1, hn⟩ := h
  intro L hL
  refine loopI hL (fun y => ∃ i : Nat, i ≤ a0.length ∧ y.2 = (i : Int) ∧ y.1 = a1 + 2 * i ∧ heldFld (a0.drop i) y.1 = heldFld a0 a1) (fun y => a0.length + 1 - y.2.toNat) (fun y hI ih => ?_) (a1, 0) ⟨0, by omega, rfl, by simp, by simp⟩
  obtain ⟨k, i'⟩ := y
  obtain ⟨i, hi, hy, hk, he⟩ := hI
  simp only at hy hk he ⊢
  subst hy hk
  have w1 : IntKind.i64.wrap (a1 + 2 * (i : Int) + 1) = a1 + 2 * i + 1 := wrap64 (by omega) (by omega)
  have w2 : IntKind.i64.wrap (a1 + 2 * (i : Int) + 1 + 1) = a1 + 2 * ((i + 1 : Nat) : Int) := by rw [wrap64 (by omega) (by omega)]; omega
  have w3 : IntKind.i64.wrap ((i : Int) + 1) = ((i + 1 : Nat) : Int) := wrapS (by omega)
  rw [w1, w2, w3]
  refine ⟨fun hlt => ?_, fun hge => ?_⟩
  · have hlt' : i < a0.length := by omega
    rw [List.drop_eq_getElem_cons hlt'] at he
    rw [rx_get _ hlt']
    rw [heldFld] at he
    refine ⟨by omega, hlt, ⟨by omega, by omega⟩, fun hne => ?_, fun hne => ⟨by omega, hlt, ⟨by omega, by omega⟩, fun hne2 => ?_, fun hne2 => ?_⟩⟩
    · rw [if_pos hne] at he; exact he
    · rw [if_neg hne, if_pos hne2] at he; exact he
    · rw [if_neg hne, if_neg hne2] at he
      refine ih _ ⟨i + 1, by omega, rfl, rfl, ?_⟩ (by simp only [Int.toNat_natCast]; omega)
      simp only
      rw [← he]
      congr 1
      omega
  · have hie : i = a0.length := by omega
    subst hie
    rw [List.drop_of_length_le (Nat.le_refl _)] at he
    exact he
theorem laws_markRequest_ok (a0 : Req) (a1 : Int) (h : pMarkRequest a0 a1) : s_laws_markRequest a0 a1 (fun r y => r = mMarkRequest a0 a1 ∧ y = wMarkRequest a0 a1) := ⟨h, rfl, rfl⟩
end Go.Ev
end

section
/- Library functions: strings.Join, strings.Trim, strings.Cut, strings.IndexByte: contracts of the small machine. -/
set_option linter.unusedVariables false
namespace Go.Ev
open Go.RowKit
def indexByteCt (f : FuncId) : Ct := { f, ps := [.v false .ro [.str], .v false .ro [.int .u8]], rs := [(false, [.int .i64])], shared := false, pre := fun (x : S × Int) => pIndexByte x.1 x.2, F := fun (x : S × Int) => mIndexByte x.1 x.2 }
theorem indexByte_ct {P : Program} {f : FuncId} {w : World} (hf : FnIs P f)
    (hI : ∀ (s : ByteArray) (c : Int), Calls P f #[.string s, .int .u8 c] w fun e w' => e = .returned (.int .i64 (Lib.indexByte s.data.toList c.toNat.toUInt8)) ∧ w' = w) : CtAt P (indexByteCt f) w := by
  refine ct_lib hf fun vals x S hS ha hp => ?_
  obtain ⟨v, vs', hv, h1, h2⟩ := args_v ha
  obtain ⟨u, us', rfl, h3, h4⟩ := args_v h2
  have h4 := args_e h4
  subst h4
  have h1 : v = .string x.1 := h1
  have h3 : u = .int .u8 x.2 := h3
  subst h1; subst h3
  rw [arr_of hv]
  refine (hI x.1 x.2).mono fun e w' ⟨he, hw⟩ => ⟨[.int .i64 (mIndexByte x.1 x.2)], _, he, ?_, Or.inl rfl, fun S' => res_int _⟩
  rw [hw]; exact Below.refl _ _
def trimLCt (f : FuncId) : Ct := { f, ps := [.v false .ro [.str], .v false .ro [.str]], rs := [(false, [.str])], shared := false, pre := fun (x : S × S) => pTrimL x.1 x.2, F := fun (x : S × S) => mTrimL x.1 x.2 }
theorem trimL_ct {P : Program} {f : FuncId} {w : World} (hf : FnIs P f)
    (hI : ∀ (s cs : ByteArray), s.size ≤ 9223372036854775807 → cs.size < 4294967281 → (∀ (j : Nat) b, cs.data.toList[j]? = some b → b.toNat < 128) →
      Calls P f #[.string s, .string cs] w fun e w' => e = .returned (.string ⟨(Lib.trimS s.data.toList cs.data.toList).toArray⟩) ∧ Below w.heap.size w w') : CtAt P (trimLCt f) w := by
  refine ct_lib hf fun vals x S hS ha hp => ?_
  obtain ⟨v, vs', hv, h1, h2⟩ := args_v ha
  obtain ⟨u, us', rfl, h3, h4⟩ := args_v h2
  have h4 := args_e h4
  subst h4
  have h1 : v = .string x.1 := h1
  have h3 : u = .string x.2 := h3
  subst h1; subst h3
  rw [arr_of hv]
  have hp : x.1.size ≤ 1073741824 ∧ x.2 = lit [32, 9] := hp
  obtain ⟨hp1, hp2⟩ := hp
  have hall : ∀ b ∈ (lit [32, 9]).data.toList, b.toNat < 128 := by decide
  refine (hI x.1 x.2 (by omega) (by rw [hp2]; decide) (fun j b hb => by rw [hp2] at hb; exact hall b (List.mem_of_getElem? hb))).mono fun e w' ⟨he, hb⟩ => ⟨[.string (mTrimL x.1 x.2)], _, he, hb, Or.inl rfl, fun S' => res_str _⟩
theorem joinL_tail (sep : S) : ∀ (x : S) (r : List S), bs (joinL sep (x :: r)) = bs x ++ Lib.joinTail (bs sep) (r.map bs)
  | x, [] => by simp [joinL, Lib.joinTail]
  | x, y :: r => by
    rw [joinL, bs_append, bs_append, joinL_tail sep y r]
    simp only [Lib.joinTail, List.map_cons, List.flatten_cons, List.append_assoc]
theorem mJoin_lib (xs : List S) (sep : S) : mJoin xs sep = ob (Lib.join (xs.map bs) (bs sep)) := by
  cases xs with
  | nil => rfl
  | cons x r =>
    refine bs_inj ?_
    rw [bs_ob, mJoin, joinL_tail, List.map_cons, Lib.join_cons]
theorem lens_sum : ∀ xs : List S, Lib.lens (xs.map bs) = sumN (xs.map fun x => x.size)
  | [] => rfl
  | x :: r => by
    have := lens_sum r
    unfold Lib.lens at this ⊢
    simp only [List.map_cons, List.sum_cons, sumN, bs_len] at this ⊢
    omega
theorem join_core {P : Program} {f : FuncId} {w : World} {S : Nat → Prop} (hS : ∀ b, S b → b < w.heap.size)
    (h0 : ∀ (a : Option Addr) (c : Nat) (sep : ByteArray), Calls P f #[.slice a 0 c, .string sep] w fun e w' => e = .returned (.string ⟨#[]⟩) ∧ w' = w)
    (hI : ∀ (bk o c : Nat) (xs : List ByteArray) (sep : ByteArray), (∀ (j : Nat) x, xs[j]? = some x → w.cell? ⟨bk, o + j, none⟩ = some (.string x)) → bk < w.heap.size → xs.length ≤ 140737488355328 → xs.length ≤ c → (Lib.join (xs.map (·.data.toList)) sep.data.toList).length ≤ 140737488355328 →
      Calls P f #[.slice (some ⟨bk, o, none⟩) xs.length c, .string sep] w fun e w' => e = .returned (.string ⟨(Lib.join (xs.map (·.data.toList)) sep.data.toList).toArray⟩) ∧ Below w.heap.size w w')
    (xs : List ByteArray) (sep : ByteArray) (hp : pJoin xs sep) (A : Option Addr) (cap : Nat) (cs : List Value) (hcap : xs.length ≤ cap) (hcl : cs.length = xs.length * 1)
    (hA : 0 < xs.length * 1 → ∃ ad, A = some ad ∧ S ad.block ∧ ∀ (j : Nat) (u : Value), cs[j]? = some u → w.cell? (ad.add j) = some u)
    (hx : ∀ (i : Nat) (y : ByteArray), xs[i]? = some y → (cs.drop (i * 1)).take 1 = [.string y]) :
    Calls P f #[.slice A xs.length cap, .string sep] w fun e w' => e = .returned (.string (mJoin xs sep)) ∧ Below w.heap.size w w' := by
  obtain ⟨hp1, hp2, hp3⟩ := hp
  by_cases hn : xs.length = 0
  · have : xs = [] := List.length_eq_zero_iff.1 hn
    subst this
    refine (h0 A cap sep).mono fun e w' ⟨he, hw⟩ => ⟨he, ?_⟩
    rw [hw]; exact Below.refl _ _
  · obtain ⟨ad, rfl, hb, hcells⟩ := hA (by omega)
    have hget : ∀ (j : Nat) (y : ByteArray), xs[j]? = some y → w.cell? (ad.add j) = some (.string y) := fun j y hj => by
      refine hcells j _ ?_
      have := congrArg (·[0]?) (hx j y hj)
      simpa [List.getElem?_take, List.getElem?_drop] using this
    have hx0 : xs[0]? = some (xs[0]'(by omega)) := List.getElem?_eq_getElem (by omega)
    have hsp := World.cell?_spot (hget 0 _ hx0)
    have hadd : ∀ j, ad.add j = ⟨ad.block, ad.off + j, none⟩ := fun j => by
      have : ad.spot = none := by
        rw [addr_zero] at hsp; exact hsp
      obtain ⟨b, o, s⟩ := ad
      simp only at this
      subst this
      unfold Addr.add
      split
      · rename_i h; subst h; rfl
      · rfl
    have had : ad = ⟨ad.block, ad.off, none⟩ := by have := hadd 0; rw [addr_zero] at this; exact this
    have hjl : (Lib.join (xs.map (·.data.toList)) sep.data.toList).length ≤ 140737488355328 := by
      cases xs with
      | nil => simp at hn
      | cons y r =>
        have h6 := Lib.join_length (bs y) (r.map bs) (bs sep)
        have h7 := lens_sum (y :: r)
        have h8 : (bs sep).length ≤ 16 := by rw [bs_len]; exact hp3
        have h9 : (bs sep).length * (r.map bs).length ≤ 16 * r.length := by rw [List.length_map]; exact Nat.mul_le_mul_right _ h8
        have h10 : (Lib.join ((y :: r).map bs) (bs sep)).length ≤ 140737488355328 := by
          rw [List.map_cons, h6]
          rw [List.map_cons] at h7
          simp only [List.length_cons] at hp1
          omega
        exact h10
    rw [had]
    refine (hI ad.block ad.off cap xs sep (fun j y hj => by rw [← hadd j]; exact hget j y hj) (hS _ hb) (by omega) hcap hjl).mono fun e w' ⟨he, hbel⟩ => ⟨?_, hbel⟩
    rw [he, mJoin_lib]; rfl
def joinCt (e : TypeId) (f : FuncId) : Ct := { f, ps := [.v false .ro [.list e [.str]], .v false .ro [.str]], rs := [(false, [.str])], shared := false, pre := fun (x : List S × S) => pJoin x.1 x.2, F := fun (x : List S × S) => mJoin x.1 x.2 }
theorem join_row {w : World} {S : Nat → Prop} {e : TypeId} {p : Col} {xs : List ByteArray} {v : Value} (h : repL (roRow w S) (.list e [.str]) p (xs : List (dens [L.str])) v) :
    ∃ (A : Option Addr) (cap : Nat) (cs : List Value), v = .slice A xs.length cap ∧ xs.length ≤ cap ∧ cs.length = xs.length * 1 ∧ (0 < xs.length * 1 → ∃ ad, A = some ad ∧ S ad.block ∧ ∀ (j : Nat) (u : Value), cs[j]? = some u → w.cell? (ad.add j) = some u) ∧
      ∀ (i : Nat) (y : ByteArray), xs[i]? = some y → (cs.drop (i * 1)).take 1 = [.string y] := by
  simp only [repL] at h
  obtain ⟨cs, ⟨A, cap, hv, hcap, hA⟩, hcl, hx⟩ := h
  refine ⟨A, cap, cs, hv, hcap, hcl, hA, fun i y hi => ?_⟩
  have h5 := hx i y hi
  simp only [repLs, repL] at h5
  obtain ⟨v, hv, rfl⟩ := h5
  exact hv
theorem join_ct {P : Program} {e : TypeId} {f : FuncId} {w : World} (hf : FnIs P f)
    (h0 : ∀ (a : Option Addr) (c : Nat) (sep : ByteArray), Calls P f #[.slice a 0 c, .string sep] w fun e w' => e = .returned (.string ⟨#[]⟩) ∧ w' = w)
    (hI : ∀ (bk o c : Nat) (xs : List ByteArray) (sep : ByteArray), (∀ (j : Nat) x, xs[j]? = some x → w.cell? ⟨bk, o + j, none⟩ = some (.string x)) → bk < w.heap.size → xs.length ≤ 140737488355328 → xs.length ≤ c → (Lib.join (xs.map (·.data.toList)) sep.data.toList).length ≤ 140737488355328 →
      Calls P f #[.slice (some ⟨bk, o, none⟩) xs.length c, .string sep] w fun e w' => e = .returned (.string ⟨(Lib.join (xs.map (·.data.toList)) sep.data.toList).toArray⟩) ∧ Below w.heap.size w w') : CtAt P (joinCt e f) w := by
  refine ct_lib hf fun vals x S hS ha hp => ?_
  obtain ⟨v, vs', hv, h1, h2⟩ := args_v ha
  obtain ⟨u, us', rfl, h3, h4⟩ := args_v h2
  have h4 := args_e h4
  subst h4
  have h3 : u = .string x.2 := h3
  subst h3
  obtain ⟨A, cap, cs, rfl, hcap, hcl, hA, hx⟩ := join_row (xs := x.1) h1
  rw [arr_of hv]
  exact (join_core hS h0 hI x.1 x.2 hp A cap cs hcap hcl hA hx).mono fun e w' ⟨he, hb⟩ => ⟨[.string (mJoin x.1 x.2)], _, he, hb, Or.inl rfl, fun S' => res_str _⟩
end Go.Ev
end

section
/- Library functions: strconv.Atoi, strings.TrimLeft, strings.Split: contracts of the small machine; what their variables hold. -/
set_option linter.unusedVariables false
namespace Go.Ev
open Go.RowKit
end Go.Ev
end

section
/- The plain library: what the functions of dates compute. -/
set_option linter.unusedVariables false
namespace Go.Ev
end Go.Ev
end

section
/- What the functions of dates come to: printed by a program of this session's own (EwShow) out of the small machine. -/
set_option linter.unusedVariables false
namespace Go.Ev

end Go.Ev
end

section
/- Laws of the plain library: the calendar. -/
set_option linter.unusedVariables false
namespace Go.Ev
end Go.Ev
end

section
/- Laws of the plain library: days, texts of dates. -/
set_option linter.unusedVariables false
namespace Go.Ev
end Go.Ev
end

section
/- Laws of the plain library: texts of moments. -/
set_option linter.unusedVariables false
namespace Go.Ev
end Go.Ev
end

section
/- Laws of the plain library: marks of texts in a row, FieldSet, WithAge, VaryNames. -/
set_option linter.unusedVariables false
namespace Go.Ev
end Go.Ev
end
