/- What is read as data of a struct or a slice stands in memory as the print's kinds have it: each kind's opening, put together type by type. Plain theorems over any program. -/
import Derived.ChangeArms
import Derived.Deep.Slices
import Derived.DataReads
import Derived.WideShapes
import Derived.Test.YtlhnhilaeoegoaaWWords
set_option linter.unusedVariables false
namespace Go.Proofs.Ytlhnhilaeoegoaa.Opn
open Go.RowKit Go.Proofs.YtlhnhilaeoegoaaW.PrintWords

def Fint (k : IntKind) (x : Int) : Prop := (Lit.int k x).wf = true
def Fbool (_ : Bool) : Prop := True
def Fstr (s : ByteArray) : Prop := s.size ≤ maxLen
def Fsl {α : Type} (F : α → Prop) (xs : List α) : Prop := xs.length ≤ maxLen ∧ ∀ x ∈ xs, F x
def Fpair {α β : Type} (F : α → Prop) (G : β → Prop) (p : α × β) : Prop := F p.1 ∧ G p.2

/-- Whatever reads at type t stands as kind d has it, and is fine. -/
structure Opens (P : Program) (t : TypeId) {α : Type} (d : Kd α) (F : α → Prop) : Prop where
  size : P.cellsOf t = d.sz
  op : ∀ {H : Type} {enc : TypeId × Value → H} {w : World} {base : Nat} {spare : Nat → Bool} {held : Bool} (fuel : Nat) (cs : List Value) (x : DataW H × List MemPlace),
    DataW.trod enc P w base spare held fuel t cs = some x → ∃ y, d.K w y cs ∧ F y

theorem Opens.int {P : Program} {t : TypeId} {k : IntKind} (ht : P.underlying t = some (.int k)) (hc : P.cellsOf t = 1) : Opens P t (Kd.int k) (Fint k) where
  size := hc
  op := by
    intro H enc w base spare held fuel cs x h
    obtain ⟨n, rfl, _, hw⟩ := DataW.trod_int ht h
    exact ⟨n, rfl, hw⟩
theorem Opens.bool {P : Program} {t : TypeId} (ht : P.underlying t = some .bool) (hc : P.cellsOf t = 1) : Opens P t Kd.bool Fbool where
  size := hc
  op := by
    intro H enc w base spare held fuel cs x h
    obtain ⟨n, rfl, _⟩ := DataW.trod_bool ht h
    exact ⟨n, rfl, trivial⟩
theorem Opens.string {P : Program} {t : TypeId} (ht : P.underlying t = some .string) (hc : P.cellsOf t = 1) : Opens P t Kd.string Fstr where
  size := hc
  op := by
    intro H enc w base spare held fuel cs x h
    obtain ⟨n, rfl, _, hs⟩ := DataW.trod_string ht h
    exact ⟨n, rfl, hs⟩
theorem list_choose {α : Type} {n : Nat} {q : Nat → α → Prop} (h : ∀ i, i < n → ∃ y, q i y) : ∃ ys : List α, ys.length = n ∧ ∀ i y, ys[i]? = some y → q i y := by
  induction n with
  | zero => exact ⟨[], rfl, fun i y hy => by simp at hy⟩
  | succ n ih =>
    obtain ⟨ys, hl, hys⟩ := ih (fun i hi => h i (by omega))
    obtain ⟨y, hy⟩ := h n (by omega)
    refine ⟨ys ++ [y], by simp [hl], fun i z hz => ?_⟩
    by_cases hi : i < ys.length
    · rw [List.getElem?_append_left hi] at hz
      exact hys i z hz
    · rw [List.getElem?_append_right (by omega)] at hz
      by_cases he : i - ys.length = 0
      · rw [he] at hz
        simp at hz
        obtain rfl : i = n := by omega
        exact hz ▸ hy
      · obtain ⟨m, hm⟩ : ∃ m, i - ys.length = m + 1 := ⟨i - ys.length - 1, by omega⟩
        rw [hm] at hz
        simp at hz
theorem Opens.slice {P : Program} {t e : TypeId} {α : Type} {d : Kd α} {F : α → Prop} (ht : P.underlying t = some (.slice e)) (hc : P.cellsOf t = 1) (he : Opens P e d F) : Opens P t (Kd.slice e d) (Fsl F) where
  size := hc
  op := by
    intro H enc w base spare held fuel cs x h
    rcases Deep.open_slice ht h with ⟨rfl, _⟩ | ⟨a, len, cap, m, n, D, Pl, rfl, hb, hl, hm, hmm, _, hel⟩
    · exact ⟨[], ⟨none, 0, rfl, Nat.le_refl _, rfl, by simp, fun h0 => by simp at h0⟩, by simp [Fsl]⟩
    · have hle : len ≤ m := by rw [hmm]; split <;> omega
      obtain ⟨ys, hlen, hys⟩ := list_choose (n := len) (q := fun i y => F y ∧ ∃ cs', w.cells? base (a.add (i * P.cellsOf e)) (P.cellsOf e) = some cs' ∧ d.K w y cs') (fun i hi => by
        obtain ⟨cs', h1, h2⟩ := hel i (by omega)
        obtain ⟨y, hy, hF⟩ := he.op _ _ _ h2
        exact ⟨y, hF, cs', h1, hy⟩)
      subst hlen
      have hmax : ys.length ≤ 9223372036854775807 := by simp only [maxLen] at hm; omega
      refine ⟨ys, ⟨some a, cap, rfl, hl, rfl, hmax, fun _ => ⟨a, rfl, fun j p hp => ?_⟩⟩, ⟨by simp only [maxLen]; omega, fun y hy => ?_⟩⟩
      · obtain ⟨_, cs', h1, h2⟩ := hys j p hp
        obtain ⟨_, h4⟩ := World.cells?_some h1
        have h3 := d.K_len h2
        refine ⟨cs', h3, h2, fun i u hu => ?_⟩
        have hi : i < cs'.length := (List.getElem?_eq_some_iff.mp hu).1
        rw [← he.size, ← Deep.add_add]
        rw [h4.2 i (by rw [he.size]; omega), hu]
      · obtain ⟨i, hi, rfl⟩ := List.mem_iff_getElem.mp hy
        exact (hys i _ (List.getElem?_eq_getElem hi)).1
/-- The fields from one on, the first of which begins at cell o. -/
structure OpensF (P : Program) (fs : List Field) (o : Nat) {α : Type} (d : Kd α) (F : α → Prop) : Prop where
  op : ∀ {H : Type} {enc : TypeId × Value → H} {w : World} {base : Nat} {spare : Nat → Bool} {held : Bool} (fuel : Nat) (cs : List Value), cs.length = o + d.sz →
    (∀ (i : Nat) (f : Field), fs[i]? = some f → ∃ z : DataW H × List MemPlace, DataW.trod enc P w base spare held fuel f.type ((cs.drop f.offset).take (P.cellsOf f.type)) = some z) → ∃ y, d.K w y (cs.drop o) ∧ F y
theorem OpensF.one {P : Program} {f : Field} {o : Nat} {α : Type} {d : Kd α} {F : α → Prop} (ho : f.offset = o) (h : Opens P f.type d F) : OpensF P [f] o d F where
  op := by
    intro H enc w base spare held fuel cs hl hz
    obtain ⟨z, hz⟩ := hz 0 f rfl
    rw [ho, List.take_of_length_le (by rw [List.length_drop, h.size]; omega)] at hz
    exact h.op _ _ _ hz
theorem OpensF.cons {P : Program} {f : Field} {fs : List Field} {o : Nat} {α β : Type} {d : Kd α} {F : α → Prop} {d' : Kd β} {F' : β → Prop} (ho : f.offset = o) (h : Opens P f.type d F) (h' : OpensF P fs (o + d.sz) d' F') :
    OpensF P (f :: fs) o (Kd.pair d d') (Fpair F F') where
  op := by
    intro H enc w base spare held fuel cs hl hz
    have hl' : cs.length = o + (d.sz + d'.sz) := hl
    obtain ⟨z, hz0⟩ := hz 0 f rfl
    rw [ho, h.size] at hz0
    obtain ⟨y, hy, hF⟩ := h.op _ _ _ hz0
    obtain ⟨y', hy', hF'⟩ := h'.op fuel cs (by omega) (fun i g hg => hz (i + 1) g (by simpa using hg))
    refine ⟨(y, y'), ⟨_, _, ?_, hy, hy'⟩, hF, hF'⟩
    rw [← List.drop_drop, List.take_append_drop]
theorem Opens.struct {P : Program} {t : TypeId} {fs : Array Field} {α : Type} {d : Kd α} {F : α → Prop} (ht : P.underlying t = some (.struct fs)) (hc : P.cellsOf t = d.sz) (h : OpensF P fs.toList 0 d F) : Opens P t d F where
  size := hc
  op := by
    intro H enc w base spare held fuel cs x hx
    obtain ⟨xs, n, _, _, hl, hxs, hf⟩ := DataW.trod_struct ht hx
    obtain ⟨y, hy, hF⟩ := h.op n cs (by omega) (fun i f hi => by
      have hi' : fs[i]? = some f := by rw [← Array.getElem?_toList]; exact hi
      have hlt : i < xs.length := by rw [hxs]; exact (Array.getElem?_eq_some_iff.mp hi').1
      exact ⟨_, (hf i f hi').trans (List.getElem?_eq_getElem hlt)⟩)
    exact ⟨y, hy, hF⟩
theorem Opens.iso {P : Program} {t : TypeId} {α β : Type} {d : Kd α} {F : α → Prop} {g : β → α} (inv : α → β) (hg : ∀ y, g (inv y) = y) (h : Opens P t d F) : Opens P t (Kd.iso d g) (fun x => F (g x)) where
  size := h.size
  op := by
    intro H enc w base spare held fuel cs x hx
    obtain ⟨y, hy, hF⟩ := h.op _ _ _ hx
    refine ⟨inv y, ?_, ?_⟩
    · show d.K w (g (inv y)) cs
      rw [hg]
      exact hy
    · show F (g (inv y))
      rw [hg]
      exact hF
end Go.Proofs.Ytlhnhilaeoegoaa.Opn
