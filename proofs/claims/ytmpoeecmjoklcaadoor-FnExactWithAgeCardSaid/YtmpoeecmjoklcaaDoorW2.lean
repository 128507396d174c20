/- A small verified machine for the operations of the given program, and plain laws of what its functions compute; without conditions of its own. Part 3. -/
import Derived.Test.YtmpoeecmjoklcaaDoorW1
import Derived.ChangeArms
import Derived.Deep.Slices
import Derived.DataReads
import Derived.WideShapes
import Derived.Lib.SlTrimSet
import Derived.Lib.Bytealg
import Derived.Lib.IndexMore
import Derived.Lib.Join
import Derived.Lib.ItoaMem
import Derived.Lib.ItoaLen
set_option linter.unusedVariables false
set_option linter.unusedSimpArgs false
section
/- The small machine is true to the model, twenty-fourth part: code. -/
set_option linter.unusedVariables false
namespace Go.Ev
open Go.RowKit

section
variable {P : Program} {E : Env} {F : Fm} {G : Gh} {σ τ σ' σb σh : St} {w : World} {tmps : Array Value} {H : Nat → List CT}

/-! ### The head -/
theorem weakL_put2 : ∀ {l m : List Leaf} {o : Nat} (x : Leaf), weakL l m → nth .junk l o = .junk → weakL l (put m o x)
  | [], [], _, _, _, _ => trivial
  | [], _ :: _, _, _, h, _ => by simp [weakL] at h
  | _ :: _, [], _, _, h, _ => by simp [weakL] at h
  | a :: l, b :: m, 0, x, h, hj => ⟨.inl hj, h.2⟩
  | a :: l, b :: m, o + 1, x, h, hj => ⟨h.1, weakL_put2 x h.2 hj⟩
structure Filled (kept : List Nat) (m : Nat) (σb σ : St) : Prop where
  slots : ∀ i, i ∉ kept → nth (.cell .junk) σ.slots i = nth (.cell .junk) σb.slots i
  boxes : ∀ b c, look σb.boxes b = some c → ∃ c', look σ.boxes b = some c' ∧ weakL c c'
  boxN : ∀ b, (look σ.boxes b).isSome → (look σb.boxes b).isSome
  regs : ∀ r, r < m → σ.reg? r = σb.reg? r
  bs : BoxSlots σ σb
theorem filled_newReg {kept : List Nat} {m id : Nat} (h : Filled kept m σb σ) (hm : m ≤ id) {e : TypeId} {ls : List L} {xs : List (dens ls)} {app : Bool} (hn : newReg σ id e ls xs app = some σ') : Filled kept m σb σ' := by
  unfold newReg at hn
  split at hn
  · injection hn with hn
    subst hn
    exact ⟨h.slots, h.boxes, h.boxN, fun r hr => by rw [setReg_reg?, if_neg (by omega)]; exact h.regs r hr, h.bs⟩
  · cases hn
theorem filled_slot {kept : List Nat} {m s : Nat} {l : Leaf} (h : Filled kept m σb σ) (hl : ∀ b, l ≠ .box b 0) (hs : s ∈ kept) : Filled kept m σb (σ.setSlot (some s) (.cell l)) where
  slots i hi := by
    simp only [St.setSlot, nth_put]
    have hne : ¬ (s = i ∧ s < σ.slots.length) := fun e => by
      obtain ⟨rfl, _⟩ := e
      exact hi hs
    rw [if_neg hne]
    exact h.slots i hi
  boxes := h.boxes
  boxN := h.boxN
  regs r hr := by rw [setSlot_reg?]; exact h.regs r hr
  bs := h.bs.set hl
theorem filled_box {kept : List Nat} {m s o : Nat} {x : Leaf} (h : Filled kept m σb σ) (hj : ∀ b, nth (.cell .junk) σb.slots s = .cell (.box b 0) → ∀ c, look σb.boxes b = some c → nth .junk c o = .junk) (hf : fillBox σ s o x = some σ') : Filled kept m σb σ' := by
  unfold fillBox at hf
  split at hf
  · next b hs =>
    obtain ⟨c, hc, hf⟩ := Option.bind_eq_some_iff.1 hf
    obtain ⟨_, hf⟩ := bif_some hf
    injection hf with hf
    subst hf
    refine ⟨h.slots, fun b' c' hc' => ?_, fun b' hb' => ?_, h.regs, h.bs⟩
    · obtain ⟨c2, h2, w2⟩ := h.boxes b' c' hc'
      rw [setBox_look]
      split
      · next e =>
        subst e
        rw [hc] at h2
        injection h2 with h2
        subst h2
        exact ⟨_, rfl, weakL_put2 x w2 (hj b (h.bs s b hs) c' hc')⟩
      · exact ⟨c2, h2, w2⟩
    · rw [setBox_look] at hb'
      split at hb'
      · next e => subst e; exact h.boxN b (by rw [hc]; rfl)
      · exact h.boxN b' hb'
  · cases hf
theorem head_filled {m : Nat} {kept : List Nat} {all : List CT} (hj : ∀ t ∈ all, ∀ s o, boxAt t = some (s, o) → ∀ b, nth (.cell .junk) σb.slots s = .cell (.box b 0) → ∀ c, look σb.boxes b = some c → nth .junk c o = .junk) :
    ∀ {cs : List CT} {id : Nat} {y : cts cs} {σ σh : St}, Filled kept m σb σ → m ≤ id → (∀ t ∈ cs, t ∈ all) → (∀ s ∈ keptSlots cs, s ∈ kept) → head id cs y σ = some σh → Filled kept m σb σh
  | [], id, y, σ, σh, h, _, _, _, hh => by
    simp only [head, Option.some.injEq] at hh
    subst hh; exact h
  | .val s t :: cs, id, y, σ, σh, h, hm, ha, hk, hh => by
    simp only [head] at hh
    exact head_filled hj (filled_slot h (by simp) (hk s (by simp [keptSlots]))) (by omega) (fun t ht => ha t (List.mem_cons_of_mem _ ht)) (fun s' hs' => hk s' (by simp [keptSlots, hs'])) hh
  | .reg s e ls a :: cs, id, y, σ, σh, h, hm, ha, hk, hh => by
    simp only [head, Option.bind_eq_some_iff] at hh
    obtain ⟨σ1, hn, hh⟩ := hh
    exact head_filled hj (filled_slot (filled_newReg h hm hn) (by simp) (hk s (by simp [keptSlots]))) (by omega) (fun t ht => ha t (List.mem_cons_of_mem _ ht)) (fun s' hs' => hk s' (by simp [keptSlots, hs'])) hh
  | .box s o t :: cs, id, y, σ, σh, h, hm, ha, hk, hh => by
    simp only [head, Option.bind_eq_some_iff] at hh
    obtain ⟨σ1, hn, hh⟩ := hh
    exact head_filled hj (filled_box h (hj _ (ha _ List.mem_cons_self) s o rfl) hn) (by omega) (fun t ht => ha t (List.mem_cons_of_mem _ ht)) (fun s' hs' => hk s' (by simpa [keptSlots] using hs')) hh
  | .breg s o e ls :: cs, id, y, σ, σh, h, hm, ha, hk, hh => by
    simp only [head, Option.bind_eq_some_iff] at hh
    obtain ⟨σ1, hn, σ2, hn2, hh⟩ := hh
    exact head_filled hj (filled_box (filled_newReg h hm hn) (hj _ (ha _ List.mem_cons_self) s o rfl) hn2) (by omega) (fun t ht => ha t (List.mem_cons_of_mem _ ht)) (fun s' hs' => hk s' (by simpa [keptSlots] using hs')) hh

theorem put_length {α : Type} (l : List α) (o : Nat) (x : α) : (put l o x).length = l.length := length_put x l o
theorem ext_fillBox {D : List Nat} {s o : Nat} {x : Leaf} (h : fillBox σ s o x = some σ') : Ext D σ σ' := by
  unfold fillBox at h
  split at h
  · next b hs =>
    obtain ⟨c, hc, h⟩ := Option.bind_eq_some_iff.1 h
    obtain ⟨_, h⟩ := bif_some h
    injection h with h
    subst h
    exact Ext.setBox fun c' hc' => by rw [hc] at hc'; injection hc' with hc'; subst hc'; exact put_length _ _ _
  · cases h
theorem ext_head {D : List Nat} : ∀ {cs : List CT} {id : Nat} {y : cts cs} {σ σh : St}, (∀ s ∈ keptSlots cs, s ∈ D) → head id cs y σ = some σh → Ext D σ σh
  | [], id, y, σ, σh, _, hh => by
    simp only [head, Option.some.injEq] at hh
    subst hh; exact Ext.refl _ _
  | .val s t :: cs, id, y, σ, σh, hk, hh => by
    simp only [head] at hh
    exact (Ext.setSlot fun i hi => by injection hi with hi; subst hi; exact hk s (by simp [keptSlots])).trans (ext_head (fun s' hs' => hk s' (by simp [keptSlots, hs'])) hh)
  | .reg s e ls a :: cs, id, y, σ, σh, hk, hh => by
    simp only [head, Option.bind_eq_some_iff] at hh
    obtain ⟨σ1, hn, hh⟩ := hh
    exact ((ext_newReg hn).trans (Ext.setSlot fun i hi => by injection hi with hi; subst hi; exact hk s (by simp [keptSlots]))).trans (ext_head (fun s' hs' => hk s' (by simp [keptSlots, hs'])) hh)
  | .box s o t :: cs, id, y, σ, σh, hk, hh => by
    simp only [head, Option.bind_eq_some_iff] at hh
    obtain ⟨σ1, hn, hh⟩ := hh
    exact (ext_fillBox hn).trans (ext_head (fun s' hs' => hk s' (by simpa [keptSlots] using hs')) hh)
  | .breg s o e ls :: cs, id, y, σ, σh, hk, hh => by
    simp only [head, Option.bind_eq_some_iff] at hh
    obtain ⟨σ1, hn, σ2, hn2, hh⟩ := hh
    exact ((ext_newReg hn).trans (ext_fillBox hn2)).trans (ext_head (fun s' hs' => hk s' (by simpa [keptSlots] using hs')) hh)

theorem ext_giveUps {D : List Nat} {σ0 : St} : ∀ {cs : List CT} {σ σ' : St}, giveUps σ0 cs σ = some σ' → Ext D σ σ'
  | [], σ, σ', h => by
    simp only [giveUps, Option.some.injEq] at h
    subst h; exact Ext.refl _ _
  | .val _ _ :: cs, σ, σ', h | .box _ _ _ :: cs, σ, σ', h => by
    simp only [giveUps] at h
    exact ext_giveUps h
  | .reg s e ls a :: cs, σ, σ', h | .breg s o e ls :: cs, σ, σ', h => by
    simp only [giveUps, Option.bind_eq_some_iff] at h
    obtain ⟨l, _, σ1, hg, h⟩ := h
    refine Ext.trans ?_ (ext_giveUps h)
    unfold giveUp at hg
    split at hg
    · injection hg with hg; subst hg; exact Ext.setReg _ _
    · injection hg with hg; subst hg; exact Ext.refl _ _
    · cases hg
theorem ext_junkBoxes {D : List Nat} : ∀ {cs : List CT} {σ σ' : St}, junkBoxes cs σ = some σ' → Ext D σ σ'
  | [], σ, σ', h => by
    simp only [junkBoxes, Option.some.injEq] at h
    subst h; exact Ext.refl _ _
  | .val _ _ :: cs, σ, σ', h | .reg _ _ _ _ :: cs, σ, σ', h => by
    simp only [junkBoxes] at h
    exact ext_junkBoxes h
  | .box s o _ :: cs, σ, σ', h | .breg s o _ _ :: cs, σ, σ', h => by
    simp only [junkBoxes, Option.bind_eq_some_iff] at h
    obtain ⟨σ1, hj, h⟩ := h
    refine Ext.trans ?_ (ext_junkBoxes h)
    unfold junkBox at hj
    split at hj
    · next b hs =>
      obtain ⟨c, hc, rfl⟩ := Option.map_eq_some_iff.1 hj
      exact Ext.setBox fun c' hc' => by rw [hc] at hc'; injection hc' with hc'; subst hc'; exact put_length _ _ _
    · cases hj
theorem ext_base {cs : List CT} {D : List Nat} (h : base cs D σ = some σb) : Ext D σ σb := by
  unfold base at h
  obtain ⟨σ1, h1, h⟩ := Option.bind_eq_some_iff.1 h
  obtain ⟨σ2, h2, rfl⟩ := Option.map_eq_some_iff.1 h
  have e := (ext_giveUps (D := D) h1).trans (ext_junkBoxes h2)
  exact ⟨fun i hi => ((junkAll_spec _ _ i).2.1 hi).trans (e.slots i hi), e.boxes, e.regs, e.len, (junkAll_length _ _).trans e.ns⟩

/-! ### From a round's end back to the head -/
theorem tkAs_take {α β : Type} : ∀ (m : List β) (l : List α), m.length ≤ l.length → tkAs m l = some (l.take m.length)
  | [], l, _ => by cases l <;> simp [tkAs]
  | _ :: m, [], h => by simp at h
  | _ :: m, a :: l, h => by simp [tkAs, tkAs_take m l (by simpa using h)]
theorem skip_length {α β : Type} : ∀ (m : List β) (l : List α), (skip m l).length = l.length - m.length
  | [], l => by simp [skip]
  | _ :: m, [] => by simp [skip]
  | _ :: m, _ :: l => by simp [skip, skip_length m l]
theorem ahead_append {α : Type} (b m : List α) : ahead m (b ++ m) = b := by
  unfold ahead
  rw [tkAs_take _ _ (by rw [skip_length]; omega), skip_length]
  simp
theorem allB_mem {α : Type} {f : α → Bool} : ∀ {l : List α} {a : α}, allB f l = true → a ∈ l → f a = true
  | b :: l, a, h, ha => by
    obtain ⟨h1, h2⟩ := allB_cons h
    rcases List.mem_cons.1 ha with rfl | ha
    · exact h1
    · exact allB_mem h2 ha
theorem anyB_mem {α : Type} {f : α → Bool} : ∀ {l : List α}, anyB f l = true → ∃ a ∈ l, f a = true
  | [], h => by simp [anyB] at h
  | b :: l, h => by
    simp only [anyB, Bool.or_eq_true] at h
    rcases h with h | h
    · exact ⟨b, by simp, h⟩
    · obtain ⟨a, ha, h⟩ := anyB_mem h
      exact ⟨a, by simp [ha], h⟩
theorem allAt_get {α : Type} {f : Nat → Bool} : ∀ {l : List α} {n i : Nat}, allAt f n l = true → i < l.length → f (n + i) = true
  | [], n, i, _, h => by simp at h
  | a :: l, n, 0, h, _ => by simp only [allAt, Bool.and_eq_true] at h; exact h.1
  | a :: l, n, i + 1, h, hi => by
    simp only [allAt, Bool.and_eq_true] at h
    have := allAt_get (i := i) h.2 (by simpa using hi)
    rwa [Nat.add_assoc, Nat.add_comm 1 i] at this
theorem back_rel {cs : List CT} {D : List Nat} {n : Nat} {y : cts cs} (hb : Base D σ σb) (hn : (∀ i, slotN σb (nth (.cell .junk) σb.slots i)) ∧ ∀ b c, look σb.boxes b = some c → leafsN σb c)
    (hj : ∀ t ∈ cs, ∀ s o, boxAt t = some (s, o) → ∃ b, nth (.cell .junk) σ.slots s = .cell (.box b 0) ∧ ∀ c, look σb.boxes b = some c → nth .junk c o = .junk) (hok : headOk (n * 65536) cs D σb = true)
    (hh : head (n * 65536) cs y σb = some σh) (he : Ext D σh σ') (hr : roundOk n cs σb σh σ' = true) (h : Rel F G σ' tmps w) (hlen : σb.slots.length = tmps.size) : Rel F G σb tmps w ∧ BoxSlots σb σ' := by
  simp only [headOk, Bool.and_eq_true] at hok
  obtain ⟨⟨⟨⟨_, hkb⟩, hkr⟩, hkept⟩, _⟩ := hok
  have hkept' : ∀ s ∈ keptSlots cs, s ∈ D := fun s hs => memN_iff.1 (allB_mem (f := fun s => memN s D) hkept hs)
  have hj' : ∀ t ∈ cs, ∀ s o, boxAt t = some (s, o) → ∀ b, nth (.cell .junk) σb.slots s = .cell (.box b 0) → ∀ c, look σb.boxes b = some c → nth .junk c o = .junk := fun t ht s o hso b hs c hc => by
    obtain ⟨b', h1, h2⟩ := hj t ht s o hso
    have hs' : s ∉ D := fun hm => by rw [hb.hit s hm] at hs; simp at hs
    rw [hb.miss s hs', h1] at hs
    have : b' = b := by simpa using hs
    subst this
    exact h2 c hc
  have hF : Filled (keptSlots cs) (n * 65536) σb σh := head_filled hj' ⟨fun _ _ => rfl, fun b c h => ⟨c, h, weakL_refl c⟩, fun _ h => h, fun _ _ => rfl, fun _ _ h => h⟩ (Nat.le_refl _) (fun t ht => ht) (fun s hs => hs) hh
  simp only [roundOk, Bool.and_eq_true] at hr
  obtain ⟨hr1, hr2⟩ := hr
  obtain ⟨bs, hbs⟩ := he.boxes
  obtain ⟨rs, hrs⟩ := he.regs
  rw [hbs, ahead_append] at hr1
  rw [hrs, ahead_append] at hr2
  have hslot : ∀ i, i ∉ D → nth (.cell .junk) σb.slots i = nth (.cell .junk) σ'.slots i := fun i hi =>
    ((he.slots i hi).trans (hF.slots i fun hk => hi (hkept' i hk))).symm
  refine ⟨h.weaken (fun i => ?_) hn.1 (fun b c hc => ⟨hn.2 b c hc, ?_⟩) (fun r g hg => ?_) (hlen.trans h.nslots.symm), fun s b hs => ?_⟩
  · by_cases hi : i ∈ D
    · exact .inl (hb.hit i hi)
    · exact .inr (hslot i hi)
  · obtain ⟨ch, h1, w1⟩ := hF.boxes b c hc
    obtain ⟨c', h2, l2⟩ := he.len b ch h1
    refine ⟨c', h2, ?_⟩
    by_cases hk : ∀ p ∈ bs, p.1 ≠ b
    · rw [hbs, look_append hk] at h2
      rw [h1] at h2
      injection h2 with h2
      subst h2
      exact w1
    · obtain ⟨p, hp, rfl⟩ : ∃ p ∈ bs, p.1 = b := by
        apply Classical.byContradiction
        intro hh2
        exact hk fun p hp e => hh2 ⟨p, hp, e⟩
      have hcar : boxCarried σb cs p.1 = true := by
        have := allB_mem hr1 hp
        simp only [Bool.or_eq_true] at this
        rcases this with h3 | h3
        · have h4 := Nat.le_of_ble_eq_true h3
          have h5 := allB_mem hkb (look_key hc)
          simp only [Bool.and_eq_true] at h5
          have h6 : p.1 + 1 ≤ n * 65536 := Nat.le_of_ble_eq_true h5.2
          omega
        · exact h3
      unfold boxCarried at hcar
      rw [hc] at hcar
      simp only at hcar
      refine weakL_junk ((weakL_len w1).trans l2.symm) fun i hi => ?_
      have hat := allAt_get hcar hi
      rw [Nat.zero_add] at hat
      obtain ⟨t, ht, htb⟩ := anyB_mem hat
      cases t with
      | val s t => cases htb
      | reg s e ls => cases htb
      | box s o t =>
        simp only [Bool.and_eq_true] at htb
        obtain ⟨e1, e2⟩ := htb
        have e1 := beq_nat e1
        subst e1
        split at e2
        · next b' hs =>
          have e2 := beq_nat e2
          rw [← e2] at hs
          exact hj' _ ht s i rfl _ hs c hc
        · cases e2
      | breg s o e ls =>
        simp only [Bool.and_eq_true] at htb
        obtain ⟨e1, e2⟩ := htb
        have e1 := beq_nat e1
        subst e1
        split at e2
        · next b' hs =>
          have e2 := beq_nat e2
          rw [← e2] at hs
          exact hj' _ ht s i rfl _ hs c hc
        · cases e2
  · -- rows
    have hlk : ∃ x, look σb.regs r = some x := by
      unfold St.reg? at hg
      cases hl : look σb.regs r with
      | none => rw [hl] at hg; cases hg
      | some x => exact ⟨x, rfl⟩
    obtain ⟨x, hx⟩ := hlk
    have hrm : r + 1 ≤ n * 65536 := Nat.le_of_ble_eq_true (allB_mem (f := fun p : Nat × Option Reg => Nat.ble (Nat.succ p.1) (n * 65536)) hkr (look_key hx))
    have hσh := hF.regs r (by omega)
    unfold St.reg? at hσh hg ⊢
    rw [hrs, look_append fun p hp e => ?_]
    · rw [hσh]; exact hg
    · have := Nat.le_of_ble_eq_true (allB_mem (f := fun p : Nat × Option Reg => Nat.ble (n * 65536) p.1) hr2 hp)
      rw [e] at this
      omega
  · by_cases hi : s ∈ D
    · rw [hb.hit s hi] at hs; simp at hs
    · rw [← hslot s hi]; exact hs
end
end Go.Ev
end

section
/- The small machine is true to the model, twenty-fifth part: code, functions. -/
set_option linter.unusedVariables false
namespace Go.Ev
open Go.RowKit

section
variable {P : Program} {E : Env} {F : Fm} {G : Gh} {σ τ σ' σb σh : St} {a : Act} {w : World} {tmps : Array Value} {H : Nat → List CT}

/-! ### A loop, unrolled -/
/-- From a round's begin the code runs to an end of which Q holds. -/
def InLoop (P : Program) (c : Code) (Q : Exit → Act → World → Prop) (a : Act) (w : World) : Prop := ∀ (b : Frame) (k : List Item) (cs : List Frame),
  ∃ e a' w', Q e a' w' ∧ Arrives P (lone (b.at a (.code c :: .inLoop c :: k)) cs w) b k cs e a' w'
theorem inLoop_round {c : Code} {Q : Exit → Act → World → Prop} (h : c.wp P (Exit.then (InLoop P c Q) Q) a w) : InLoop P c Q a w := by
  intro b k cs
  obtain ⟨e, a₁, w₁, hq, harr⟩ := h b (.inLoop c :: k) cs
  cases e with
  | normal =>
    obtain ⟨e₂, a₂, w₂, hq₂, harr₂⟩ := hq b k cs
    exact ⟨e₂, a₂, w₂, hq₂, .of_steps (Steps.trans harr (.one step_inLoop)) harr₂⟩
  | exit id => exact ⟨_, a₁, w₁, hq, .pass (x := .inLoop c) rfl (fun _ _ => .inl (by simp)) harr⟩
  | goto l => exact ⟨_, a₁, w₁, hq, .pass (x := .inLoop c) rfl (fun _ _ => .inl (by simp)) harr⟩
  | ret => exact ⟨_, a₁, w₁, hq, .pass (x := .inLoop c) rfl (fun _ _ => .inl (by simp)) harr⟩
  | panic ch => exact ⟨_, a₁, w₁, hq, .pass (x := .inLoop c) rfl (fun _ _ => .inl (by simp)) harr⟩
  | outgrown => exact ⟨_, a₁, w₁, hq, .pass (x := .inLoop c) rfl (fun _ _ => .inl (by simp)) harr⟩
theorem wp_of_inLoop {c : Code} {Q : Exit → Act → World → Prop} (h : InLoop P c Q a w) : (Code.loop c).wp P Q a w := fun b k cs =>
  let ⟨e, a', w', hq, harr⟩ := h b k cs
  ⟨e, a', w', hq, .of_steps (.one step_loop) harr⟩

def exOf : Ex → Exit
  | .normal => .normal
  | .exit id => .exit id
  | .ret => .ret

/-- At a loop's head: what is carried is y. -/
def Carried (F : Fm) (m : Nat) (σb : St) (cs : List CT) (y : cts cs) (a : Act) (w : World) : Prop :=
  ∃ τ G, Rel F G τ a.tmps w ∧ Rel F G σb a.tmps w ∧ BoxSlots σb τ ∧ carry m σb m τ cs = some y ∧ Calm F a

theorem mem_append_left {l m : List Nat} : ∀ {i : Nat}, i ∈ l → i ∈ app l m := by
  induction l with
  | nil => intro i h; cases h
  | cons a l ih =>
    intro i h
    simp only [app]
    rcases List.mem_cons.1 h with rfl | h
    · simp
    · exact List.mem_cons_of_mem _ (ih h)
theorem mem_append_right {l m : List Nat} : ∀ {i : Nat}, i ∈ m → i ∈ app l m := by
  induction l with
  | nil => intro i h; simpa [app] using h
  | cons a l ih => intro i h; simp only [app]; exact List.mem_cons_of_mem _ (ih h)

theorem evalCode_ok (hE : EnvOk P E) (hC : EnvCts P E F.w0 F.n0) : ∀ (c : Code) {n : Nat} {σ : St} {a : Act} {w : World} {K : Ex → Nat → St → Prop} {Q : Exit → Act → World → Prop}, (∀ d ∈ pdsts c, F.free d) → Ok F σ a w → evalCode E H c n σ K →
    (∀ e n' σ' a' w', K e n' σ' → Ok F σ' a' w' → Ext (dsts H c) σ σ' → Q (exOf e) a' w') → c.wp P Q a w := by
  intro c
  induction c with
  | skip =>
    intro n σ a w K Q hX h hs hK
    exact wp_skip (hK .normal n σ a w hs h (Ext.refl _ _))
  | region id ops dr =>
    intro n σ a w K Q hX h hs hK
    cases dr with
    | true =>
      obtain ⟨hb, hs⟩ : (drawOk ops && allB (fun q : Nat × Option Reg => Nat.ble (Nat.succ q.1) (n * 65536)) σ.regs) = true ∧ evalDraw E ops.toList (tk (preLen ops.toList) ops.toList) 0 (n * 65536) σ (fun σ' => evalSeq E (dp ops.toList (preLen ops.toList)) (n * 65536 + 256 * preLen ops.toList) σ' fun σ' => K .normal (n + 1) σ') := by
        have hs' : (bif drawOk ops && allB (fun q : Nat × Option Reg => Nat.ble (Nat.succ q.1) (n * 65536)) σ.regs then evalDraw E ops.toList (tk (preLen ops.toList) ops.toList) 0 (n * 65536) σ (fun σ' => evalSeq E (dp ops.toList (preLen ops.toList)) (n * 65536 + 256 * preLen ops.toList) σ' fun σ' => K .normal (n + 1) σ') else False) := hs
        cases hb : (drawOk ops && allB (fun q : Nat × Option Reg => Nat.ble (Nat.succ q.1) (n * 65536)) σ.regs) with
        | true => rw [hb] at hs'; exact ⟨rfl, hs'⟩
        | false => rw [hb] at hs'; exact hs'.elim
      simp only [Bool.and_eq_true] at hb
      exact draw_ok hE hC hX h hb.1 hb.2 hs fun σ' a' w' hk hok hext => hK .normal (n + 1) σ' a' w' hk hok hext
    | false =>
      exact region_ok hE hC hX h hs fun σ' a' w' hk hok hext => hK .normal (n + 1) σ' a' w' hk hok hext
  | seq c1 c2 ih1 ih2 =>
    intro n σ a w K Q hX h hs hK
    refine wp_seq (ih1 (fun d hd => hX d (mem_append_left hd)) h hs fun e n' σ' a' w' hk hok hext => ?_)
    have he1 : Ext (dsts H (.seq c1 c2)) σ σ' := hext.mono fun i hi => mem_append_left hi
    cases e with
    | normal => exact ih2 (fun d hd => hX d (mem_append_right hd)) hok hk fun e2 n2 σ2 a2 w2 hk2 hok2 hext2 => hK e2 n2 σ2 a2 w2 hk2 hok2 (he1.trans (hext2.mono fun i hi => mem_append_right hi))
    | exit id => exact hK _ n' σ' a' w' hk hok he1
    | ret => exact hK _ n' σ' a' w' hk hok he1
  | cond x c1 c2 ih1 ih2 =>
    intro n σ a w K Q hX h hs hK
    have hs : (match σ.op x with
      | .cell l => brP l (evalCode E H c1 n σ K) (evalCode E H c2 n σ K) (fun p => (p → evalCode E H c1 n σ K) ∧ (¬ p → evalCode E H c2 n σ K))
      | _ => False) := hs
    have l1 : evalCode E H c1 n σ K → c1.wp P Q a w := fun hh => ih1 (fun d hd => hX d (mem_append_left hd)) h hh fun e n' σ' a' w' hk hok hext => hK e n' σ' a' w' hk hok (hext.mono fun i hi => mem_append_left hi)
    have l2 : evalCode E H c2 n σ K → c2.wp P Q a w := fun hh => ih2 (fun d hd => hX d (mem_append_right hd)) h hh fun e n' σ' a' w' hk hok hext => hK e n' σ' a' w' hk hok (hext.mono fun i hi => mem_append_right hi)
    split at hs
    · next l hl =>
      obtain ⟨G, hR, hd⟩ := h
      have hop := op_ok hR x
      rw [hl] at hop
      simp only [slotR] at hop
      obtain ⟨b, hb, hres⟩ := brP_ok (R := fun b => (if b then c1 else c2).wp P Q a w) hop hs (fun _ hT _ => l1 hT) (fun _ hF _ => l2 hF) (fun p hS ⟨d, hv⟩ => by
        refine ⟨@decide p d, hv, ?_⟩
        cases d with
        | isTrue hp => exact l1 (hS.1 hp)
        | isFalse hp => exact l2 (hS.2 hp))
      exact wp_cond hb hres
    · exact hs.elim
  | block id c ih =>
    intro n σ a w K Q hX h hs hK
    refine wp_block (ih hX h hs fun e n' σ' a' w' hk hok hext => ?_)
    cases e with
    | normal => exact hK .normal n' σ' a' w' hk hok hext
    | exit i =>
      simp only at hk
      simp only [exOf, Exit.inBlock]
      cases hb : Nat.beq i id with
      | true =>
        rw [hb] at hk
        rw [if_pos (beq_nat hb)]
        exact hK .normal n' σ' a' w' hk hok hext
      | false =>
        rw [hb] at hk
        rw [if_neg fun e => by rw [e, Nat.beq_refl] at hb; cases hb]
        exact hK (.exit i) n' σ' a' w' hk hok hext
    | ret => exact hK .ret n' σ' a' w' hk hok hext
  | loop c ih =>
    intro n σ a w K Q hX h hs hK
    simp only [evalCode] at hs
    split at hs
    · exact hs.elim
    · next σb hbase =>
      split at hs
      · exact hs.elim
      · next y₀ hy₀ =>
        cases hok : headOk (n * 65536) (H (firstRegion c)) (dsts H (.loop c)) σb with
        | false => rw [hok] at hs; exact hs.elim
        | true =>
          rw [hok] at hs
          simp only [Bool.not_true, cond_false] at hs
          obtain ⟨G, hR, hd⟩ := h
          obtain ⟨hb, hj⟩ := base_ok hbase
          have hnm := hb.named hR
          have hRb : Rel F G σb a.tmps w := hR.weaken (fun i => by
              by_cases hi : i ∈ dsts H (.loop c)
              · exact .inl (hb.hit i hi)
              · exact .inr (hb.miss i hi)) hnm.1 (fun b c' hc' => ⟨hnm.2 b c' hc', hb.boxes b c' hc'⟩) hb.regs hb.len
          have hlen : (H (firstRegion c)).length ≤ 65536 := by
            have := hok
            simp only [headOk, Bool.and_eq_true] at this
            exact Nat.le_of_ble_eq_true this.2
          have hkept : ∀ s ∈ keptSlots (H (firstRegion c)), s ∈ dsts H (.loop c) := fun s hs => by
            have := hok
            simp only [headOk, Bool.and_eq_true] at this
            exact memN_iff.1 (allB_mem (f := fun s => memN s (dsts H (.loop c))) this.1.2 hs)
          have hext0 : Ext (dsts H (.loop c)) σ σb := ext_base hbase
          have hsize : σb.slots.length = a.tmps.size := hRb.nslots
          refine wp_of_inLoop (hs (fun y => ∀ a w, Carried F (n * 65536) σb (H (firstRegion c)) y a w → InLoop P c Q a w) (fun y hy a1 w1 hcar => ?_) a w
            ⟨σ, G, hR, hRb, fun s b hs => by
              by_cases hi : s ∈ dsts H (.loop c)
              · rw [hb.hit s hi] at hs; simp at hs
              · rw [← hb.miss s hi]; exact hs, hy₀, hd⟩)
          obtain ⟨τ, G1, hRτ, hRσ, hB, hc, hd1⟩ := hcar
          split at hy
          · exact hy.elim
          · next σh hh =>
            obtain ⟨G2, hR2⟩ := fill_head hRτ hRσ (fun b => .inl rfl) (fun b => Iff.rfl) (fun r g hg => .inl hg) (Nat.le_refl _) (by omega) hB hc hh
            have hexth : Ext (dsts H (.loop c)) σb σh := ext_head hkept hh
            refine inLoop_round (ih hX ⟨G2, hR2, hd1⟩ hy fun e n' σ' a' w' hk hok2 hext0' => ?_)
            have hext : Ext (dsts H (.loop c)) σh σ' := hext0'.mono fun i hi => mem_append_left hi
            have hall : Ext (dsts H (.loop c)) σ σ' := (hext0.trans hexth).trans hext
            cases e with
            | exit id => exact hK _ n' σ' a' w' hk hok2 hall
            | ret => exact hK _ n' σ' a' w' hk hok2 hall
            | normal =>
              simp only at hk
              split at hk
              · next y' hy' =>
                obtain ⟨G3, hR3, hd3⟩ := hok2
                unfold back at hy'
                obtain ⟨hround, hcarry⟩ := bif_some hy'
                have hsz : σb.slots.length = a'.tmps.size := by rw [← hR3.nslots, hext.ns, hexth.ns]
                obtain ⟨g1, g2⟩ := back_rel hb hnm hj hok hh hext hround hR3 hsz
                exact hk a' w' ⟨σ', G3, hR3, g1, g2, hcarry, hd3⟩
              · exact hk.elim
  | exit id =>
    intro n σ a w K Q hX h hs hK
    exact wp_exit (hK (.exit id) n σ a w hs h (Ext.refl _ _))
  | ret =>
    intro n σ a w K Q hX h hs hK
    exact wp_ret (hK .ret n σ a w hs h (Ext.refl _ _))
  | rangeFunc _ _ _ _ _ _ => intro n σ a w K Q hX h hs hK; exact hs.elim
  | scope _ _ => intro n σ a w K Q hX h hs hK; exact hs.elim
  | label _ => intro n σ a w K Q hX h hs hK; exact hs.elim
  | goto _ => intro n σ a w K Q hX h hs hK; exact hs.elim
  | refuse _ => intro n σ a w K Q hX h hs hK; exact hs.elim
end
end Go.Ev
end

section
/- The small machine is true to the model, twenty-sixth part: results, and a function's contract. -/
set_option linter.unusedVariables false
namespace Go.Ev
open Go.RowKit

section
variable {P : Program} {E : Env} {F : Fm} {G : Gh} {σ τ σ' σ0 : St} {a : Act} {w : World} {tmps : Array Value} {H : Nat → List CT}

theorem shared_ok (h : Rel F G σ tmps w) {S' : Nat → Prop} {col : Nat → Option Nat} (hsu : Suits F G w true [] S' col) : ∀ {ts : List L} {ls : List Leaf} {x : dens ts} {us : List Value} (j : Nat), leafsR (stab F G.c w) G σ w ls us → asAll σ ts ls = some x → outR S' col w true j ts x us
  | [], [], x, us, j, hl, ha => by simpa [outR, leafsR] using hl
  | [], _ :: _, x, us, j, hl, ha => by simp [asAll] at ha
  | _ :: _, [], x, us, j, hl, ha => by simp [asAll] at ha
  | .list e els :: ts, l :: ls, x, us, j, hl, ha => by
    simp only [leafsR] at hl
    obtain ⟨v, vs', rfl, h1, h2⟩ := hl
    simp only [asAll, Option.bind_eq_some_iff, Option.map_eq_some_iff] at ha
    obtain ⟨x1, ha, xr, hr, rfl⟩ := ha
    simp only [outR]
    refine ⟨v, vs', rfl, ?_, by rw [tl_mk]; exact shared_ok h hsu (j + 1) h2 hr⟩
    simp only [if_true]
    rw [hd_mk]
    exact as_in h hsu.1 (hsu.2.1 rfl) h1 ha
  | .int k :: ts, l :: ls, x, us, j, hl, ha | .bool :: ts, l :: ls, x, us, j, hl, ha | .str :: ts, l :: ls, x, us, j, hl, ha => by
    simp only [leafsR] at hl
    obtain ⟨v, vs', rfl, h1, h2⟩ := hl
    simp only [asAll, Option.bind_eq_some_iff, Option.map_eq_some_iff] at ha
    obtain ⟨x1, ha, xr, hr, rfl⟩ := ha
    simp only [outR]
    refine ⟨v, vs', rfl, ?_, by rw [tl_mk]; exact shared_ok h hsu j h2 hr⟩
    rw [hd_mk]
    exact repL_flat rfl (as_now h h1 ha)

/-- A result's value. -/
def resRun (tmps : Array Value) : ResultVar → Sem Value
  | .tmp t => pure (tmps.getD t undef)
  | .cell a t => do loadVar t (← asAddr (tmps.getD a undef))
theorem resOf_ok (hE : EnvOk P E) (h : Rel F G σ tmps w) {agg : Bool} {rv : ResultVar} {ls : List Leaf} (hr : resOf E σ agg rv = some ls) : ∃ v cs, (resRun tmps rv).run P w = .ok v w ∧ slotV agg cs v ∧ leafsR (stab F G.c w) G σ w ls cs := by
  cases rv with
  | tmp t =>
    simp only [resOf] at hr
    have hs := h.slots t
    split at hr
    · next l hl =>
      rw [hl] at hs
      simp only [slotR] at hs
      cases agg with
      | true => cases hr
      | false =>
        injection hr with hr
        subst hr
        exact ⟨tmps.getD t undef, [tmps.getD t undef], by simp [resRun], by simp [slotV], by simp only [leafsR]; exact ⟨_, [], rfl, hs, rfl⟩⟩
    · next ls' hl =>
      rw [hl] at hs
      simp only [slotR] at hs
      obtain ⟨cs, hv, hc, _⟩ := hs
      cases agg with
      | false => cases hr
      | true =>
        injection hr with hr
        subst hr
        exact ⟨tmps.getD t undef, cs, by simp [resRun], by rw [hv]; simp [slotV], hc⟩
    · cases hr
  | cell ad t =>
    simp only [resOf] at hr
    have hs := h.slots ad
    split at hr
    · next b hb =>
      rw [hb] at hs
      simp only [slotR, leafR] at hs
      obtain ⟨_, hv⟩ := hs
      obtain ⟨i, hi, hr⟩ := Option.bind_eq_some_iff.1 hr
      obtain ⟨hag, hr⟩ := bif_some hr
      obtain ⟨c, hc, hr⟩ := Option.bind_eq_some_iff.1 hr
      obtain ⟨rfl, hlen⟩ := exact_eq hr
      obtain ⟨t', cur, b1, b2, b3, b4⟩ := h.boxes b _ hc
      obtain ⟨ti, ht1, ht2, hk⟩ := ti_agg (hE.ti hi)
      have hcl : cur.toList.length = i.ls.length := by rw [leafsR_length b3, hlen]
      have hcells : ∀ j u, cur.toList[j]? = some u → w.cell? ((⟨G.bb b, 0, none⟩ : Addr).add j) = some u := fun j u hu => by
        rw [addr_add, cell_row b1]; simpa using hu
      rcases hk with ⟨hst, fs, hu⟩ | ⟨hst, hl1, d, hu, hn1, hn2⟩
      · rw [hst] at hag
        have hag : agg = true := hag
        subst hag
        refine ⟨.agg cur, cur.toList, ?_, by simp [slotV], b3⟩
        have hlc := run_loadCells_list (P := P) w _ cur.toList hcells
        rw [hcl, ← ht2] at hlc
        simp [resRun, hv, asAddr, loadVar, isAgg, run_underlying hu, sizeOf, typeInfo, ht1, hlc]
      · rw [hst] at hag
        have hag : agg = false := by simpa using hag
        subst hag
        obtain ⟨u, hu1⟩ := List.length_eq_one_iff.1 (hcl.trans hl1)
        refine ⟨u, [u], ?_, by simp [slotV], by rw [← hu1]; exact b3⟩
        have hcell : w.cell? ⟨G.bb b, 0, none⟩ = some u := by
          have := hcells 0 u (by rw [hu1]; rfl)
          simpa [Addr.add] using this
        have hagg : (isAgg t).run P w = .ok false w := by
          simp only [isAgg, Sem.run_bind, run_underlying hu, Result.andThen_ok]
          cases d <;> first | rfl | exact absurd rfl (hn1 _) | exact absurd rfl (hn2 _ _)
        simp [resRun, hv, asAddr, loadVar, hagg, hcell]
    · cases hr

theorem out_ok (hE : EnvOk P E) (h : Rel F G σ0 tmps w) {sh : Bool} : ∀ {rs : List (Bool × List L)} {vs : List ResultVar} {x : caps (snds rs)} {σ σ' : St} (j : Nat), (∀ r g, σ.reg? r = some g → σ0.reg? r = some g) → Rel F G σ tmps w → outRes E sh σ rs vs = some (x, σ') →
    ∃ us L, (vs.mapM (resRun tmps)).run P w = .ok us w ∧ Moved σ σ' L ∧ (sh = true → L = []) ∧ ∀ S' col, Suits F G w sh L S' col → resR S' col w sh rs x j us
  | [], [], x, σ, σ', j, hs, hR, ho => by
    simp only [outRes, Option.some.injEq] at ho
    obtain ⟨_, rfl⟩ := Prod.mk.inj ho
    exact ⟨[], [], by simp, Moved.refl, fun _ => rfl, fun S' col _ => by simp [resR]⟩
  | [], _ :: _, x, σ, σ', j, hs, hR, ho => by simp [outRes] at ho
  | _ :: _, [], x, σ, σ', j, hs, hR, ho => by simp [outRes] at ho
  | p :: rs, rv :: vs, x, σ, σ', j, hs, hR, ho => by
    simp only [outRes, Option.bind_eq_some_iff, Option.map_eq_some_iff] at ho
    obtain ⟨ls, hls, x1, ha, σ1, hm, ⟨xr, σ2⟩, hrest, hx⟩ := ho
    simp only [Prod.mk.injEq] at hx
    obtain ⟨rfl, rfl⟩ := hx
    obtain ⟨v, cs, hrun, hsl, hleafs⟩ := resOf_ok hE hR hls
    obtain ⟨L1, hM1, hsh1, hout1⟩ : ∃ L, Moved σ σ1 L ∧ (sh = true → L = []) ∧ ∀ S' col, Suits F G w sh L S' col → outR S' col w sh j p.2 x1 cs := by
      cases sh with
      | true =>
        have : σ = σ1 := by simpa using hm
        subst this
        exact ⟨[], Moved.refl, fun _ => rfl, fun S' col hsu => shared_ok hR hsu j hleafs ha⟩
      | false =>
        obtain ⟨L, hL, _, hout⟩ := moveAll_ok hR j hleafs ha (fun _ _ h => h) (by simpa using hm)
        exact ⟨L, hL, by simp, hout⟩
    have hR1 : Rel F G σ1 tmps w := by
      cases sh with
      | true =>
        have : σ = σ1 := by simpa using hm
        subst this
        exact hR
      | false => exact (moveAll_rel hR (by simpa using hm)).1
    obtain ⟨us, L2, hrun2, hM2, hsh2, hout2⟩ := out_ok hE h (j + 16) (fun r g hg => hs r g (hM1.sub r g hg)) hR1 hrest
    refine ⟨v :: us, L1 ++ L2, ?_, hM1.trans hM2, fun hh => by rw [hsh1 hh, hsh2 hh]; rfl, fun S' col hsu => ?_⟩
    · simp [List.mapM_cons, hrun, hrun2]
    · simp only [resR]
      exact ⟨v, us, cs, rfl, by rw [chd_cmk]; exact hout1 S' col hsu.left, .inr hsl, by rw [ctl_cmk]; exact hout2 S' col hsu.right⟩
end
end Go.Ev
end

section
/- The small machine is true to the model, last part: a function's contract out of what it comes to. -/
set_option linter.unusedVariables false
namespace Go.Ev
open Go.RowKit

section
variable {P : Program} {E : Env} {F : Fm} {G : Gh} {σ : St} {a : Act} {w : World} {tmps : Array Value} {H : Nat → List CT} {S T : Nat → Prop}

theorem ro_sub (hST : ∀ b, S b → T b) {p : Col} {e : TypeId} {sz n : Nat} {v : Value} {cs : List Value} (h : roRow w S p e sz n v cs) : roRow w T p e sz n v cs := ro_mono (fun b hb => ⟨hST b hb, rfl⟩) h
theorem enter_caps (hST : ∀ b, S b → T b) : ∀ {cs : List (List L)} {x : caps cs} {vs : List Value}, capsR S w cs x vs → leafsR T G σ w (capSlots cs x) vs
  | [], _, _, h => by simpa [capsR, capSlots, leafsR] using h
  | t :: ts, x, _, h => by
    simp only [capsR] at h
    obtain ⟨v, vs', rfl, ⟨ad, cs, hv, hs, hc, hr⟩, h2⟩ := h
    simp only [capSlots, leafsR, leafR]
    exact ⟨v, vs', rfl, ⟨ad, cs, by rw [addr_zero]; exact hv, hST _ hs, hc, repLs_map (fun _ _ _ _ _ _ _ => ro_sub hST) hr⟩, enter_caps hST h2⟩
theorem leafs_length : ∀ {ls : List L} (x : dens ls), (leafs ls x).length = ls.length
  | [], _ => rfl
  | t :: ts, x => by simp [leafs, leafs_length (tl x)]
theorem enter_ok (hST : ∀ b, S b → T b) : ∀ {ps : List PT} {x : pts ps} {vs : List Value}, argsR S w ps x vs → slotsR T G σ w (enter ps x) vs
  | [], _, _, h => by simpa [argsR, enter, slotsR] using h
  | .v agg m ts :: ps, x, _, h => by
    simp only [argsR] at h
    obtain ⟨v, vs', rfl, ⟨cs, hr, hsl⟩, h2⟩ := h
    have hr' : repLs (roRow w T) ts [] 0 0 (phd x) cs := repLs_map (fun _ _ _ _ _ _ _ => ro_sub hST) hr
    have hl := leafsR_of_rep (G := G) (σ := σ) hr'
    simp only [enter, slotsR]
    refine ⟨v, vs', rfl, ?_, enter_ok hST h2⟩
    cases agg with
    | true =>
      simp only [slotV, if_true] at hsl
      simp only [cellOrAgg, cond_true, slotR]
      exact ⟨cs, hsl, hl, repLs_one roRow_one hr'⟩
    | false =>
      simp only [slotV, Bool.false_eq_true, if_false] at hsl
      subst hsl
      have h1 : (leafs ts (phd (t := .v false m ts) x)).length = 1 := (leafs_length (ls := ts) (phd (t := .v false m ts) x)).trans (by simpa using (repLs_length hr').symm)
      obtain ⟨l, hl1⟩ := List.length_eq_one_iff.1 h1
      simp only [cellOrAgg, cond_false]
      have hl1' : leafs ts (phd (t := .v false m ts) x) = [l] := hl1
      rw [hl1']
      simp only [slotR]
      rw [hl1] at hl
      simp only [leafsR] at hl
      obtain ⟨v', vs'', e, h3, _⟩ := hl
      have : v = v' := by simpa using (List.cons.inj e).1
      rw [this]; exact h3
  | .p io ts :: ps, x, _, h => by
    simp only [argsR] at h
    obtain ⟨v, vs', rfl, ⟨ad, cs, hv, hs, hc, hr⟩, h2⟩ := h
    simp only [enter, slotsR, slotR, leafR]
    exact ⟨v, vs', rfl, ⟨ad, cs, by rw [addr_zero]; exact hv, hST _ hs, hc, repLs_map (fun _ _ _ _ _ _ _ => ro_sub hST) hr⟩, enter_ok hST h2⟩
  | .c f cs :: ps, x, _, h => by
    simp only [argsR] at h
    obtain ⟨v, vs', rfl, ⟨cvs, hv, hc⟩, h2⟩ := h
    simp only [enter, slotsR, slotR, leafR]
    exact ⟨v, vs', rfl, ⟨cvs, hv, enter_caps hST hc⟩, enter_ok hST h2⟩

theorem pad_length {α : Type} (d : α) : ∀ (n : Nat) (l : List α), (pad d n l).length = max n l.length
  | 0, l => by simp [pad]
  | n + 1, [] => by simp [pad, pad_length d n]
  | n + 1, b :: l => by simp [pad, pad_length d n]
theorem pad_nth {α : Type} (d : α) : ∀ (n : Nat) (l : List α) (i : Nat), nth d (pad d n l) i = nth d l i
  | 0, l, i => rfl
  | n + 1, [], 0 => rfl
  | n + 1, [], i + 1 => by
    have := pad_nth d n [] i
    simp only [pad, nth]
    exact this
  | n + 1, b :: l, 0 => rfl
  | n + 1, b :: l, i + 1 => by simp only [pad, nth]; exact pad_nth d n l i
theorem slotsR_get : ∀ {ss : List Slot} {vs : List Value}, slotsR T G σ w ss vs → ∀ i, slotR T G σ w (nth (.cell .junk) ss i) (vs.getD i undef)
  | [], _, _, i => by simp only [nth, slotR, leafR]
  | s :: ss, _, h, 0 => by
    simp only [slotsR] at h
    obtain ⟨v, vs', rfl, h1, _⟩ := h
    exact h1
  | s :: ss, _, h, i + 1 => by
    simp only [slotsR] at h
    obtain ⟨v, vs', rfl, _, h2⟩ := h
    simpa [nth] using slotsR_get h2 i

/-- A function keeps the contract that its evaluation comes to. -/
theorem ct_ok (hE : EnvOk P E) (hC : EnvCts P E w w.heap.size) {fn : Func} {c : Ct} (hf : P.funcs[c.f]? = some fn) (hname : (fn.name == "runtime.NumGoroutine") = false)
    (hev : ∀ x, c.pre x → evalFn E H fn c.ps c.rs c.shared x fun r => r = c.F x) : CtAt P c w := by
  obtain ⟨f, ps, rs, shared, pre, Fn⟩ := c
  intro vals x S hS hargs hpre
  have h0 := hev x hpre
  unfold evalFn at h0
  obtain ⟨body, hbody⟩ : ∃ b, fn.body = some b := by
    cases hb : fn.body with
    | none => rw [hb] at h0; exact h0.elim
    | some b => exact ⟨b, rfl⟩
  refine ⟨⟨fn, hf, hname, by rw [hbody]; rfl⟩, ?_⟩
  rw [hbody] at h0
  simp only at h0
  refine calls_of_wp hf hbody ?_
  -- the frame
  let F : Fm := { w0 := w, S := S }
  let G : Gh := ⟨fun _ => none, fun _ => 0, fun _ => undef⟩
  have hent := enter_ok (G := G) (σ := { slots := pad (.cell .junk) fn.ntmps (enter ps x), boxes := [], regs := [] }) (T := stab F G.c w) (fun b hb => .inl hb) hargs
  have hlen : vals.size = (enter ps x).length := by
    have := slotsR_length hent
    simpa using this
  have hR : Rel F G { slots := pad (.cell .junk) fn.ntmps (enter ps x), boxes := [], regs := [] } (vals ++ Array.replicate (fn.ntmps - vals.size) undef) w := {
    below := BelowO.refl _ _
    hS := ⟨Nat.le_refl _, fun b hb => hb.elim, fun b hb => ⟨hS b hb, fun h => h⟩⟩
    col := fun b hb => absurd rfl hb
    boxes := fun b c hc => by cases hc
    regs := fun r g hg => by cases hg
    slots := fun i => by
      rw [pad_nth]
      have := slotsR_get hent i
      have e : (vals ++ Array.replicate (fn.ntmps - vals.size) undef).getD i undef = vals.toList.getD i undef := by
        rw [Array.getD_eq_getD_getElem?, List.getD_eq_getElem?_getD, Array.getElem?_append, Array.getElem?_toList]
        split
        · rfl
        · next hi =>
          have : vals[i]? = none := Array.getElem?_eq_none (by omega)
          rw [this, Array.getElem?_replicate]
          split <;> rfl
      rw [e]; exact this
    nslots := by
      rw [pad_length, ← hlen]
      simp only [Array.size_append, Array.size_replicate]
      omega }
  refine evalCode_ok (F := F) hE hC body (fun d _ p hp => by cases hp) ⟨G, hR, rfl, fun p hp => by cases hp⟩ h0 fun e n' σ' a' w' hk hok hext => ?_
  obtain ⟨G', hR', hd⟩ := hok
  have hend : (match outRes E shared σ' rs fn.results.toList with
      | none => False
      | some (r, _) => r = Fn x) → a'.defers = [] ∧ ∃ v, (results fn a'.tmps).run P w' = .ok v w' ∧ (fun e w' => ∃ vs v col, e = Ending.returned v ∧ Below w.heap.size w w' ∧ retV vs v ∧ (∀ b, col b ≠ none → w.heap.size ≤ b ∧ b < w'.heap.size) ∧
        resR (fun b => S b ∨ (w.heap.size ≤ b ∧ b < w'.heap.size ∧ col b = none)) col w' shared rs (Fn x) 0 vs) (Ending.returned v) w' := fun hm => by
    split at hm
    · exact hm.elim
    · next r τ hout =>
      subst hm
      obtain ⟨us, L, hrun, hM, hsh, hres⟩ := out_ok hE hR' 0 (fun _ _ h => h) hR' hout
      let col : Nat → Option Nat := fun b => match G'.c b with
        | some [(r, 0)] => look L r
        | _ => none
      have hcol : ∀ b, col b ≠ none → G'.c b ≠ none := fun b hb hc => by
        simp only [col, hc] at hb
        exact hb rfl
      refine ⟨hd.1, (if h : us.length = 1 then us[0] else .tuple us.toArray), ?_, us, _, col, rfl, hR'.below.below, ?_, fun b hb => ⟨(hR'.col b (hcol b hb)).1.resolve_right fun h => h, (hR'.col b (hcol b hb)).2⟩, hres _ col ⟨fun b hb => ?_, fun hs b hb => ?_, fun p hp b hb => ?_⟩⟩
      · have e : fn.results.mapM (resRun a'.tmps) = List.toArray <$> fn.results.toList.mapM (resRun a'.tmps) := Array.mapM_eq_mapM_toList
        have hr2 : (fn.results.mapM (resRun a'.tmps)).run P w' = .ok us.toArray w' := by
          rw [e]
          simp [hrun]
        have key : ∀ f : ResultVar → Sem Value, (∀ rv, f rv = resRun a'.tmps rv) → (fn.results.mapM f).run P w' = .ok us.toArray w' := fun f hf => by
          rw [show f = resRun a'.tmps from funext hf]; exact hr2
        unfold results
        rw [Sem.run_bind, key _ (fun rv => by cases rv <;> rfl)]
        simp only [Result.andThen_ok, Sem.run_pure, List.size_toArray]
        by_cases h1 : us.length = 1 <;> simp [h1]
      · unfold retV
        by_cases h1 : us.length = 1
        · left
          rw [dif_pos h1]
          obtain ⟨u, rfl⟩ := List.length_eq_one_iff.1 h1
          rfl
        · right
          rw [dif_neg h1]
          exact ⟨h1, rfl⟩
      · rcases hb with hb | hb
        · exact .inl hb
        · refine .inr ⟨hb.1.resolve_right fun h => h, hb.2.1, ?_⟩
          simp only [col, hb.2.2]
      · have h1 := hR'.col b hb
        refine .inr ⟨h1.1.resolve_right fun h => h, h1.2, ?_⟩
        simp only [col, hsh hs]
        split <;> rfl
      · simp only [col, hb]
        exact look_pairs hM.once hp
  cases e with
  | normal => exact hend hk
  | exit id => exact hk.elim
  | ret => exact hend hk
end
end Go.Ev
end

section
/- The small machine is true to the model: the contract of a function that writes the rows that it is handed. -/
set_option linter.unusedVariables false
namespace Go.Ev
open Go.RowKit

section
variable {P : Program} {E : Env} {F : Fm} {G G' : Gh} {σ σ' : St} {a : Act} {w w' : World} {tmps : Array Value} {H : Nat → List CT} {S T : Nat → Prop}

/-- Other slots, the same names. -/
theorem keep_other (ss : List Slot) : Keep F G σ w G { σ with slots := ss } w := ⟨BelowO.refl _ _, fun b hb => ⟨hb, rfl⟩, fun b hb => ⟨hb, rfl⟩, fun r hr => ⟨hr, rfl, fun g' hg' => ⟨g', hg', rfl, rfl⟩⟩⟩
theorem enter1_ok (hST : ∀ b, S b → T b) {p : PT} {x : p.den} {v : Value} (h : argR S w p x v) : slotR T G σ w (enter1 p x) v := by
  have h2 : slotsR T G σ w (enter [p] x) [v] := enter_ok hST (ps := [p]) (x := x) (by simp only [argsR]; exact ⟨v, [], rfl, h, rfl⟩)
  have e : enter [p] x = [enter1 p x] := by rcases p with ⟨agg, m, ts⟩ | _ | _ <;> rfl
  rw [e] at h2
  simp only [slotsR] at h2
  obtain ⟨v', vs', hv, h3, _⟩ := h2
  have : v = v' := by simpa using (List.cons.inj hv).1
  rw [this]; exact h3

/-- Rows come in. -/
theorem enterM_ok {col : Nat → Option Nat} : ∀ {ps : List PT} {x : pts ps} {j : Nat} {vs : List Value} {G : Gh} {σ σ' : St} {ss : List Slot}, Rel F G σ tmps w → (∀ b, S b → F.S b) → (∀ b j, col b = some j → G.c b = some [(j, 0)]) →
    argsMR S col w ps x j vs → enterM ps x j σ = some (ss, σ') → ∃ G', Rel F G' σ' tmps w ∧ Keep F G σ w G' σ' w ∧ G'.c = G.c ∧ slotsR (stab F G'.c w) G' σ' w ss vs
  | [], x, j, vs, G, σ, σ', ss, h, hS, hc, ha, he => by
    simp only [argsMR] at ha
    simp only [enterM, Option.some.injEq] at he
    obtain ⟨rfl, rfl⟩ := Prod.mk.inj he
    exact ⟨G, h, Keep.refl _ _ _ _, rfl, by simpa [slotsR] using ha⟩
  | p :: ps, x, j, vs, G, σ, σ', ss, h, hS, hc, ha, he => by
    simp only [argsMR] at ha
    obtain ⟨v, vs', rfl, h1, h2⟩ := ha
    have plain : argR S w p (phd x) v → (enterM ps (ptl x) (j + 16) σ).map (fun r => (enter1 p (phd x) :: r.1, r.2)) = some (ss, σ') →
        ∃ G', Rel F G' σ' tmps w ∧ Keep F G σ w G' σ' w ∧ G'.c = G.c ∧ slotsR (stab F G'.c w) G' σ' w ss (v :: vs') := fun h1 he => by
      obtain ⟨⟨ss', σ2⟩, he2, hx⟩ := Option.map_eq_some_iff.1 he
      obtain ⟨rfl, rfl⟩ := Prod.mk.inj hx
      obtain ⟨G', hR, k, e1, hl⟩ := enterM_ok h hS hc h2 he2
      refine ⟨G', hR, k, e1, ?_⟩
      simp only [slotsR]
      exact ⟨v, vs', rfl, enter1_ok (fun b hb => .inl (hS b hb)) h1, hl⟩
    rcases p with ⟨agg, m, ts⟩ | ⟨io, ts⟩ | ⟨f, cs⟩
    · cases m with
      | io =>
        simp only [argMR] at h1
        obtain ⟨cs, ho, hsl⟩ := h1
        simp only [enterM, Option.bind_eq_some_iff, Option.map_eq_some_iff] at he
        obtain ⟨⟨ls, σ1⟩, hf1, s, hs, ⟨ss', σ2⟩, hf2, hx⟩ := he
        obtain ⟨rfl, rfl⟩ := Prod.mk.inj hx
        obtain ⟨G1, hR1, k1, e1, hl1⟩ := fresh_ok (S := S) (sh := false) (id := 0) h (fun b j hj => by rw [Nat.zero_add]; exact hc b j hj) (.inl fun b hb => .inl (hS b hb)) ho hf1
        obtain ⟨G2, hR2, k2, e2, hl2⟩ := enterM_ok hR1 hS (by rw [e1]; exact hc) h2 hf2
        refine ⟨G2, hR2, k1.trans k2, e2.trans e1, ?_⟩
        simp only [slotsR]
        refine ⟨v, vs', rfl, slotR_keep k2 ?_, hl2⟩
        rcases slotOf_ok hs with ⟨ha, rfl⟩ | ⟨ha, l, hl, rfl⟩
        · simp only [slotV, ha, if_true] at hsl
          simp only [slotR]
          exact ⟨cs, hsl, hl1, outR_one ho⟩
        · simp only [slotV, ha, Bool.false_eq_true, if_false] at hsl
          simp only [slotR]
          simp only at hl
          rw [hl, hsl] at hl1
          simp only [leafsR] at hl1
          obtain ⟨v', vs'', e, h3, _⟩ := hl1
          have : v = v' := by simpa using (List.cons.inj e).1
          rw [this]; exact h3
      | ro => exact plain h1 he
      | mv => exact plain h1 he
    · exact plain h1 he
    · exact plain h1 he

theorem allAt_nil {f : Nat → Bool} {α : Type} : ∀ {l : List α} {n : Nat}, allAt f n l = true → ∀ i, i < l.length → f (n + i) = true := fun h i hi => allAt_get h hi

/-- What a row holds at the end. -/
theorem outRow_ok {col : Nat → Option Nat} (hR : Rel F G σ tmps w') : ∀ {ts : List L} {ls : List Leaf} {x y : dens ts} {cs : List Value} {σk σk' : St} {j : Nat}, outR S col w false j ts x cs → leafsR (stab F G.c w') G σ w' ls cs → asAll σ ts ls = some y →
    (∀ r g, σk.reg? r = some g → σ.reg? r = some g) → moveAll σk ts ls = some σk' → outR (fun _ => True) col w' false j ts y cs
  | [], [], x, y, cs, σk, σk', j, ho, hl, ha, hk, hm => by simpa [outR] using ho
  | [], _ :: _, x, y, cs, σk, σk', j, ho, hl, ha, hk, hm => by simp [asAll] at ha
  | _ :: _, [], x, y, cs, σk, σk', j, ho, hl, ha, hk, hm => by simp [asAll] at ha
  | .list e els :: ts, l :: ls, x, y, cs, σk, σk', j, ho, hl, ha, hk, hm => by
    simp only [outR] at ho
    obtain ⟨v, vs', rfl, o1, o2⟩ := ho
    simp only [leafsR] at hl
    obtain ⟨v2, vs2, hvv, h1, h2⟩ := hl
    obtain ⟨rfl, rfl⟩ := List.cons.inj hvv
    simp only [asAll, Option.bind_eq_some_iff, Option.map_eq_some_iff] at ha
    obtain ⟨x1, ha, xr, hr, rfl⟩ := ha
    cases l with
    | nil =>
      simp only [moveAll] at hm
      simp only [outR]
      refine ⟨v, vs', rfl, ?_, by rw [tl_mk]; exact outRow_ok hR o2 h2 hr hk hm⟩
      simp only [Bool.false_eq_true, if_false]
      rw [hd_mk]
      unfold Leaf.as at ha
      simp only at ha
      injection ha with ha
      subst ha
      simp only [leafR] at h1
      subst h1
      refine nil_rep fun p e sz => ?_
      unfold regRow
      split
      · exact .inl ⟨rfl, none, rfl⟩
      · exact ro_nil p e sz
    | reg r =>
      simp only [moveAll] at hm
      split at hm
      · next g hg =>
        obtain ⟨hfa, hm⟩ := bif_some hm
        simp only [Bool.and_eq_true, Bool.not_eq_true'] at hfa
        obtain ⟨hfz, happ⟩ := hfa
        have hg0 := hk r g hg
        have hsub : ∀ r' g', (σk.setReg r none).reg? r' = some g' → σ.reg? r' = some g' := fun r' g' hg' => by
          rw [setReg_reg?] at hg'
          split at hg'
          · cases hg'
          · exact hk r' g' hg'
        simp only [outR]
        refine ⟨v, vs', rfl, ?_, by rw [tl_mk]; exact outRow_ok hR o2 h2 hr hsub hm⟩
        simp only [Bool.false_eq_true, if_false] at o1 ⊢
        rw [hd_mk]
        simp only [leafR] at h1
        have hreg := hR.regs r g hg0
        unfold Leaf.as at ha
        simp only [hg0] at ha
        split at ha
        · next hq =>
          injection ha with ha
          obtain ⟨ge, gls, gxs, gapp, gfrz⟩ := g
          simp only at hfz happ
          subst hfz happ
          have hq2 : Nat.beq e ge = true ∧ L.beqs gls els = true := Bool.and_eq_true _ _ ▸ hq
          have e1 := beq_nat hq2.1
          have e2 := L.beqs_eq _ _ hq2.2
          subst e1 e2
          have e3 : gxs = x1 := ha
          subst e3
          unfold regR at hreg
          simp only [Bool.false_eq_true, if_false] at hreg
          rw [← h1.2.1] at hreg
          simp only [repL] at hreg o1 ⊢
          obtain ⟨cs0, r0, len0, el0⟩ := o1
          obtain ⟨cs1, r1, len1, el1⟩ := hreg
          unfold regRow at r0 r1
          rw [if_pos (by simp)] at r0 r1
          obtain ⟨_, r2, _⟩ := own_back r0 r1 (c2 := colOf col) (fun g hg => hg)
          refine ⟨cs1, ?_, len1, fun i x hx => repLs_map (fun l o e sz n v cs hh => ?_) (el1 i x hx)⟩
          · unfold regRow
            rw [if_pos (by simp)]
            exact r2
          · unfold regRow at hh ⊢
            rw [if_neg (by simp)] at hh ⊢
            exact ro_mono (fun b hb => ⟨trivial, rfl⟩) hh
        · cases ha
      · cases hm
    | _ => simp [moveAll] at hm
  | .int k :: ts, l :: ls, x, y, cs, σk, σk', j, ho, hl, ha, hk, hm | .bool :: ts, l :: ls, x, y, cs, σk, σk', j, ho, hl, ha, hk, hm | .str :: ts, l :: ls, x, y, cs, σk, σk', j, ho, hl, ha, hk, hm => by
    simp only [outR] at ho
    obtain ⟨v, vs', rfl, o1, o2⟩ := ho
    simp only [leafsR] at hl
    obtain ⟨v2, vs2, hvv, h1, h2⟩ := hl
    obtain ⟨rfl, rfl⟩ := List.cons.inj hvv
    simp only [asAll, Option.bind_eq_some_iff, Option.map_eq_some_iff] at ha
    obtain ⟨x1, ha, xr, hr, rfl⟩ := ha
    simp only [outR]
    refine ⟨v, vs', rfl, ?_, by rw [tl_mk]; exact outRow_ok hR o2 h2 hr hk (by simpa only [moveAll] using hm)⟩
    rw [hd_mk]
    exact repL_flat rfl (as_now hR h1 ha)

def fixFrom : List PT → Nat → List Value → List (Nat × Value)
  | p :: ps, n, v :: vs => bif isIo p then (n, v) :: fixFrom ps (n + 1) vs else fixFrom ps (n + 1) vs
  | _, _, _ => []
theorem fixFrom_mem : ∀ {ps : List PT} {vs : List Value} {n : Nat} {p : Nat × Value}, p ∈ fixFrom ps n vs → ∃ k, p.1 = n + k ∧ vs[k]? = some p.2
  | [], _, n, p, h => by simp [fixFrom] at h
  | _ :: _, [], n, p, h => by simp [fixFrom] at h
  | q :: ps, v :: vs, n, p, h => by
    have tail : p ∈ fixFrom ps (n + 1) vs → ∃ k, p.1 = n + k ∧ (v :: vs)[k]? = some p.2 := fun h => by
      obtain ⟨k, h1, h2⟩ := fixFrom_mem h
      exact ⟨k + 1, by omega, by simpa using h2⟩
    simp only [fixFrom] at h
    cases hi : isIo q with
    | true =>
      rw [hi] at h
      rcases List.mem_cons.1 h with rfl | h
      · exact ⟨0, rfl, rfl⟩
      · exact tail h
    | false => rw [hi] at h; exact tail h
theorem fixFrom_free {D : List Nat} : ∀ {ps : List PT} {vs : List Value} {n : Nat} {p : Nat × Value}, ioFree D ps n = true → p ∈ fixFrom ps n vs → p.1 ∉ D
  | [], _, n, p, _, h => by simp [fixFrom] at h
  | _ :: _, [], n, p, _, h => by simp [fixFrom] at h
  | q :: ps, v :: vs, n, p, hD, h => by
    simp only [ioFree, Bool.and_eq_true, Bool.or_eq_true, Bool.not_eq_true'] at hD
    simp only [fixFrom] at h
    cases hi : isIo q with
    | true =>
      rw [hi] at h
      rcases List.mem_cons.1 h with rfl | h
      · rcases hD.1 with h1 | h1
        · rw [hi] at h1; cases h1
        · intro hm
          rw [memN_iff.2 hm] at h1; cases h1
      · exact fixFrom_free hD.2 h
    | false => rw [hi] at h; exact fixFrom_free hD.2 h
theorem outM_ok {col : Nat → Option Nat} (hR : Rel F G σ tmps w') : ∀ {ps : List PT} {x y : pts ps} {vs : List Value} {i j : Nat}, argsMR S col w ps x j vs → (∀ p ∈ fixFrom ps i vs, tmps.getD p.1 undef = p.2) → outM σ ps i x = some y → backsR col w' ps y j vs
  | [], x, y, vs, i, j, ha, hf, ho => by simp only [backsR]
  | p :: ps, x, y, vs, i, j, ha, hf, ho => by
    simp only [argsMR] at ha
    obtain ⟨v, vs', rfl, h1, h2⟩ := ha
    have hf' : ∀ q ∈ fixFrom ps (i + 1) vs', tmps.getD q.1 undef = q.2 := fun q hq => hf q (by
      simp only [fixFrom]
      cases isIo p with
      | true => exact List.mem_cons_of_mem _ hq
      | false => exact hq)
    have plain : (∀ z, backR col w' j p z v) → ((outM σ ps (i + 1) (ptl x)).map fun r => pmk (phd x) r) = some y → backsR col w' (p :: ps) y j (v :: vs') := fun hb ho => by
      obtain ⟨r, hr, rfl⟩ := Option.map_eq_some_iff.1 ho
      simp only [backsR]
      exact ⟨v, vs', rfl, hb _, by rw [ptl_pmk]; exact outM_ok hR h2 hf' hr⟩
    rcases p with ⟨agg, m, ts⟩ | ⟨io, ts⟩ | ⟨f, cs⟩
    · cases m with
      | io =>
        simp only [argMR] at h1
        obtain ⟨cs, o1, hsl⟩ := h1
        simp only [outM, Option.bind_eq_some_iff, Option.map_eq_some_iff] at ho
        obtain ⟨ls, hls, z, hz, σm, hm, r, hr, rfl⟩ := ho
        have hv : tmps.getD i undef = v := hf (i, v) (by simp [fixFrom, isIo])
        have hs := hR.slots i
        rw [hv] at hs
        obtain ⟨cs2, hleafs, hsl2⟩ := slotLeafs_ok hs hls
        have := slotV_inj hsl hsl2
        subst this
        simp only [backsR]
        have e1 : phd (pmk (t := .v agg .io ts) z r) = z := phd_pmk (t := .v agg .io ts) z r
        have e2 : ptl (pmk (t := .v agg .io ts) z r) = r := ptl_pmk (t := .v agg .io ts) z r
        exact ⟨v, vs', rfl, (congrArg (fun z : dens ts => backR col w' j (.v agg .io ts) z v) e1).mpr ⟨cs, outRow_ok hR o1 hleafs hz (fun _ _ h => h) hm, hsl⟩,
          (congrArg (fun z : pts ps => backsR col w' ps z (j + 16) vs') e2).mpr (outM_ok hR h2 hf' hr)⟩
      | ro => exact plain (fun _ => trivial) ho
      | mv => exact plain (fun _ => trivial) ho
    · exact plain (fun _ => trivial) ho
    · exact plain (fun _ => trivial) ho

theorem argsMR_length {col : Nat → Option Nat} : ∀ {ps : List PT} {x : pts ps} {j : Nat} {vs : List Value}, argsMR S col w ps x j vs → vs.length = ps.length
  | [], _, _, _, h => by simp only [argsMR] at h; subst h; rfl
  | p :: ps, _, _, _, h => by
    simp only [argsMR] at h
    obtain ⟨v, vs', rfl, _, h2⟩ := h
    simp [argsMR_length h2]

theorem flat_out {T' : Nat → Prop} {col col' : Nat → Option Nat} {sh : Bool} : ∀ {ts : List L} {x : dens ts} {j j' : Nat} {cs : List Value}, flat ts = true → outR S col w sh j ts x cs → outR T' col' w' sh j' ts x cs
  | [], _, _, _, _, _, h => by simpa [outR] using h
  | .list _ _ :: _, _, _, _, _, hf, _ => by simp [flat, allB, flatL] at hf
  | .int _ :: ts, _, _, _, _, hf, h | .bool :: ts, _, _, _, _, hf, h | .str :: ts, _, _, _, _, hf, h => by
    simp only [outR] at h ⊢
    obtain ⟨v, vs', rfl, h1, h2⟩ := h
    exact ⟨v, vs', rfl, repL_flat rfl h1, flat_out (allB_cons hf).2 h2⟩
theorem flat_res {T' : Nat → Prop} {col col' : Nat → Option Nat} {sh : Bool} : ∀ {rs : List (Bool × List L)} {x : caps (snds rs)} {j j' : Nat} {vs : List Value}, allB (fun r => flat r.2) rs = true → resR S col w sh rs x j vs → resR T' col' w' sh rs x j' vs
  | [], _, _, _, _, _, h => by simpa [resR] using h
  | r :: rs, _, _, _, _, hf, h => by
    simp only [resR] at h ⊢
    obtain ⟨v, vs', cs, rfl, h1, h2, h3⟩ := h
    exact ⟨v, vs', cs, rfl, flat_out (allB_cons hf).1 h1, h2, flat_res (allB_cons hf).2 h3⟩

/-- A function that writes what it is handed keeps the contract that its evaluation comes to. -/
theorem ctm_ok {n : Nat} (hE : EnvOk P E) (hC : EnvCts P E w n) {fn : Func} {c : CtM} (hf : P.funcs[c.f]? = some fn) (hname : (fn.name == "runtime.NumGoroutine") = false)
    (hev : ∀ x, c.pre x → evalM E H fn c.ps c.rs x fun r y => r = c.F x ∧ y = c.W x) : CtMAt P c n w := by
  obtain ⟨f, ps, rs, pre, Fn, Wn⟩ := c
  intro hn vals x S col hS hO hargs hpre
  have h0 := hev x hpre
  unfold evalM at h0
  obtain ⟨body, hbody⟩ : ∃ b, fn.body = some b := by
    cases hb : fn.body with
    | none => rw [hb] at h0; exact h0.elim
    | some b => exact ⟨b, rfl⟩
  refine ⟨⟨fn, hf, hname, by rw [hbody]; rfl⟩, ?_⟩
  rw [hbody] at h0
  simp only at h0
  refine calls_of_wp hf hbody ?_
  cases hchk : (ioFree (pdsts body) ps 0 && allB (fun r => flat r.2) rs) with
  | false => rw [hchk] at h0; exact h0.elim
  | true =>
  rw [hchk] at h0
  simp only [Bool.not_true, cond_false] at h0
  simp only [Bool.and_eq_true] at hchk
  obtain ⟨hpar, hfl⟩ := hchk
  split at h0
  · exact h0.elim
  next ss σ0 hent =>
  have hlenp : vals.toList.length = ps.length := argsMR_length hargs
  let F : Fm := { w0 := w, S := S, n0 := n, O := fun b => col b ≠ none, fix := fixFrom ps 0 vals.toList }
  let G : Gh := ⟨fun b => (col b).map fun j => [(j, 0)], fun _ => 0, fun _ => undef⟩
  have hR0 : Rel F G { slots := [], boxes := [], regs := [] } #[] w := {
    below := BelowO.refl _ _
    hS := ⟨hn, fun b hb => hO b hb, fun b hb => ⟨(hS b hb).1, fun h => h (hS b hb).2⟩⟩
    col := fun b hb => by
      have hb' : col b ≠ none := fun e => hb (by simp only [G, e]; rfl)
      exact ⟨.inr hb', (hO b hb').2⟩
    boxes := fun b c hc => by cases hc
    regs := fun r g hg => by cases hg
    slots := fun i => by simp only [nth, slotR, leafR]
    nslots := rfl }
  obtain ⟨G1, hR1, _, e1, hslots⟩ := enterM_ok (S := S) (col := col) hR0 (fun b hb => hb) (fun b j hj => by simp only [G, hj]; rfl) hargs hent
  have hlen : vals.size = ss.length := by
    have := slotsR_length hslots
    simpa using this
  have hR : Rel F G1 { σ0 with slots := pad (.cell .junk) fn.ntmps ss } (vals ++ Array.replicate (fn.ntmps - vals.size) undef) w := {
    below := hR1.below
    hS := hR1.hS
    col := hR1.col
    boxes := fun b c hc => by
      obtain ⟨t, cur, b1, b2, b3, b4⟩ := hR1.boxes b c hc
      exact ⟨t, cur, b1, b2, leafsR_keep (keep_other _) b3, b4⟩
    regs := fun r g hg => hR1.regs r g hg
    slots := fun i => by
      rw [pad_nth]
      have := slotsR_get hslots i
      have e : (vals ++ Array.replicate (fn.ntmps - vals.size) undef).getD i undef = vals.toList.getD i undef := by
        rw [Array.getD_eq_getD_getElem?, List.getD_eq_getElem?_getD, Array.getElem?_append, Array.getElem?_toList]
        split
        · rfl
        · next hi =>
          have : vals[i]? = none := Array.getElem?_eq_none (by omega)
          rw [this, Array.getElem?_replicate]
          split <;> rfl
      rw [e]; exact slotR_keep (keep_other _) this
    nslots := by
      rw [pad_length, ← hlen]
      simp only [Array.size_append, Array.size_replicate]
      omega }
  have hfree : ∀ d ∈ pdsts body, F.free d := fun d hd p hp e => fixFrom_free hpar hp (by rw [e]; exact hd)
  have hcalm : ∀ p ∈ F.fix, (vals ++ Array.replicate (fn.ntmps - vals.size) undef).getD p.1 undef = p.2 := fun p hp => by
    obtain ⟨k, h1, h2⟩ := fixFrom_mem hp
    rw [h1, Nat.zero_add, Array.getD_eq_getD_getElem?, Array.getElem?_append]
    rw [Array.getElem?_toList] at h2
    have := (Array.getElem?_eq_some_iff.1 h2).1
    rw [if_pos this, h2]
    rfl
  refine evalCode_ok (F := F) hE hC body hfree ⟨G1, hR, rfl, hcalm⟩ h0 fun e n' σ' a' w' hk hok hext => ?_
  obtain ⟨G', hR', hd⟩ := hok
  have hend : (match outRes E false σ' rs fn.results.toList with
      | none => False
      | some (r, _) => match outM σ' ps 0 x with
        | none => False
        | some y => r = Fn x ∧ y = Wn x) → a'.defers = [] ∧ ∃ v, (results fn a'.tmps).run P w' = .ok v w' ∧ (fun e w' => ∃ vs v, e = Ending.returned v ∧ Below n w w' ∧ (∀ b, b < w.heap.size → col b = none → w'.heap[b]? = w.heap[b]?) ∧ retV vs v ∧
        resR (fun _ => False) (fun _ => none) w' false rs (Fn x) 0 vs ∧ backsR col w' ps (Wn x) 0 vals.toList) (Ending.returned v) w' := fun hm => by
    split at hm
    · exact hm.elim
    · next r τ hout =>
      split at hm
      · exact hm.elim
      · next y hy =>
      obtain ⟨hm1, hm2⟩ := hm
      subst hm1 hm2
      obtain ⟨us, L, hrun, hM, hsh, hres⟩ := out_ok hE hR' 0 (fun _ _ h => h) hR' hout
      refine ⟨hd.1, (if h : us.length = 1 then us[0] else .tuple us.toArray), ?_, us, _, rfl, hR'.below.below, fun b hb hc => hR'.below.block b hb fun h => h hc, ?_,
        flat_res hfl (hres (fun b => b < w'.heap.size) (fun b => match G'.c b with
          | some [(r, 0)] => look L r
          | _ => none) ⟨fun b hb => stab_lt hR' hb, by simp, fun p hp b hb => ?_⟩), outM_ok hR' hargs (fun p hp => hd.2 p hp) hy⟩
      · have e : fn.results.mapM (resRun a'.tmps) = List.toArray <$> fn.results.toList.mapM (resRun a'.tmps) := Array.mapM_eq_mapM_toList
        have hr2 : (fn.results.mapM (resRun a'.tmps)).run P w' = .ok us.toArray w' := by
          rw [e]
          simp [hrun]
        have key : ∀ f : ResultVar → Sem Value, (∀ rv, f rv = resRun a'.tmps rv) → (fn.results.mapM f).run P w' = .ok us.toArray w' := fun f hf => by
          rw [show f = resRun a'.tmps from funext hf]; exact hr2
        unfold results
        rw [Sem.run_bind, key _ (fun rv => by cases rv <;> rfl)]
        simp only [Result.andThen_ok, Sem.run_pure, List.size_toArray]
        by_cases h1 : us.length = 1 <;> simp [h1]
      · unfold retV
        by_cases h1 : us.length = 1
        · left
          rw [dif_pos h1]
          obtain ⟨u, rfl⟩ := List.length_eq_one_iff.1 h1
          rfl
        · right
          rw [dif_neg h1]
          exact ⟨h1, rfl⟩
      · simp only [hb]
        exact look_pairs hM.once hp
  cases e with
  | normal => exact hend hk
  | exit id => exact hk.elim
  | ret => exact hend hk
end
end Go.Ev
end

section
/- What is read as data stands in memory as typed values: by a check on the type table alone. -/
set_option linter.unusedVariables false
namespace Go.Ev
open Go.RowKit

mutual
/-- Data that is read is fine: numbers in their range, lengths in theirs. -/
def wf : (t : L) → t.den → Prop
  | .int k, x => (Lit.int k x).wf = true
  | .bool, _ => True
  | .str, s => ByteArray.size s ≤ maxLen
  | .list _ ls, xs => List.length (α := L.dens ls) xs ≤ maxLen ∧ ∀ (i : Nat) (x : L.dens ls), gt (α := L.dens ls) xs i = some x → wfs ls x
def wfs : (ls : List L) → L.dens ls → Prop
  | [], _ => True
  | [t], x => wf t x
  | t :: t' :: ts, x => wf t x.1 ∧ wfs (t' :: ts) x.2
end
theorem wfs_cons {t : L} {ts : List L} {x : dens (t :: ts)} : wfs (t :: ts) x ↔ wf t (hd x) ∧ wfs ts (tl x) := by
  cases ts with
  | nil => simp [wfs, hd]
  | cons t' ts => simp [wfs, hd, tl]
def dapp : {l m : List L} → dens l → dens m → dens (l ++ m)
  | [], _, _, y => y
  | t :: ts, _, x, y => mk (hd x) (dapp (tl x) y)
theorem repLs_app {R : Rw} : ∀ {l m : List L} {p : Col} {i o : Nat} {x : dens l} {y : dens m} {cs ds : List Value}, repLs R l p i o x cs → repLs R m p i (o + l.length) y ds → repLs R (l ++ m) p i o (dapp x y) (cs ++ ds)
  | [], m, p, i, o, x, y, cs, ds, h, h' => by
    simp only [repLs] at h
    subst h
    simpa [dapp] using h'
  | t :: ts, m, p, i, o, x, y, cs, ds, h, h' => by
    obtain ⟨v, cs', rfl, h1, h2⟩ := repLs_cons.1 h
    refine repLs_cons.2 ⟨v, cs' ++ ds, rfl, ?_, ?_⟩
    · simp only [dapp, hd_mk]; exact h1
    · simp only [dapp, tl_mk]
      exact repLs_app h2 (by rwa [List.length_cons, show o + (ts.length + 1) = o + 1 + ts.length by omega] at h')
theorem wfs_app : ∀ {l m : List L} {x : dens l} {y : dens m}, wfs l x → wfs m y → wfs (l ++ m) (dapp x y)
  | [], _, _, _, _, h => h
  | t :: ts, m, x, y, h, h' => by
    obtain ⟨h1, h2⟩ := wfs_cons.1 h
    refine wfs_cons.2 ⟨?_, ?_⟩
    · simp only [dapp, hd_mk]; exact h1
    · simp only [dapp, tl_mk]; exact wfs_app h2 h'

def fieldsOp (P : Program) (f : TypeId → List L → Bool) : List Field → Nat → List L → Bool
  | [], _, [] => true
  | [], _, _ :: _ => false
  | fd :: fs, o, ls => Nat.beq fd.offset o && f fd.type (ls.take (P.cellsOf fd.type)) && fieldsOp P f fs (o + (ls.take (P.cellsOf fd.type)).length) (ls.drop (P.cellsOf fd.type))
def opB (P : Program) : Nat → TypeId → List L → Bool
  | 0, _, _ => false
  | n + 1, t, ls => Nat.beq (P.cellsOf t) ls.length && (match P.underlying t with
    | some (.int k) => (match ls with
      | [.int k'] => kEq k k'
      | _ => false)
    | some .bool => (match ls with
      | [.bool] => true
      | _ => false)
    | some .string => (match ls with
      | [.str] => true
      | _ => false)
    | some (.slice e) => (match ls with
      | [.list e' ls'] => Nat.beq e e' && opB P n e ls'
      | _ => false)
    | some (.struct fs) => fieldsOp P (opB P n) fs.toList 0 ls
    | _ => false)

structure Opn (P : Program) (t : TypeId) (ls : List L) : Prop where
  size : P.cellsOf t = ls.length
  op : ∀ {H : Type} {enc : TypeId × Value → H} {w : World} {base : Nat} {spare : Nat → Bool} {held : Bool} (fuel : Nat) (cs : List Value) (x : DataW H × List MemPlace),
    DataW.trod enc P w base spare held fuel t cs = some x → ∃ y : dens ls, repLs (roRow w (now w)) ls [] 0 0 y cs ∧ wfs ls y
theorem list_choose {α : Type} {n : Nat} {q : Nat → α → Prop} (h : ∀ i, i < n → ∃ y, q i y) : ∃ ys : List α, ys.length = n ∧ ∀ i y, ys[i]? = some y → q i y := by
  induction n with
  | zero => exact ⟨[], rfl, fun i y hy => by simp at hy⟩
  | succ n ih =>
    obtain ⟨ys, hl, hys⟩ := ih (fun i hi => h i (by omega))
    obtain ⟨y, hy⟩ := h n (by omega)
    refine ⟨ys ++ [y], by simp [hl], fun i z hz => ?_⟩
    by_cases hi : i < ys.length
    · rw [List.getElem?_append_left hi] at hz
      exact hys i z hz
    · rw [List.getElem?_append_right (by omega)] at hz
      by_cases he : i - ys.length = 0
      · rw [he] at hz
        simp at hz
        obtain rfl : i = n := by omega
        exact hz ▸ hy
      · obtain ⟨m, hm⟩ : ∃ m, i - ys.length = m + 1 := ⟨i - ys.length - 1, by omega⟩
        rw [hm] at hz
        simp at hz
theorem cell_now {w : World} {a : Addr} {u : Value} (h : w.cell? a = some u) : now w a.block := by
  unfold World.cell? at h
  unfold now
  rcases Nat.lt_or_ge a.block w.heap.size with h1 | h1
  · exact h1
  · rw [Array.getElem?_eq_none h1] at h
    simp at h

/-- The fields from one on, the first of which begins at cell o. -/
theorem fields_ok {P : Program} {f : TypeId → List L → Bool} (hf : ∀ t ls, f t ls = true → Opn P t ls) : ∀ {fs : List Field} {o : Nat} {ls : List L}, fieldsOp P f fs o ls = true →
    ∀ {H : Type} {enc : TypeId × Value → H} {w : World} {base : Nat} {spare : Nat → Bool} {held : Bool} (fuel : Nat) (cs : List Value), cs.length = o + ls.length →
    (∀ (i : Nat) (f : Field), fs[i]? = some f → ∃ z : DataW H × List MemPlace, DataW.trod enc P w base spare held fuel f.type ((cs.drop f.offset).take (P.cellsOf f.type)) = some z) → ∃ y : dens ls, repLs (roRow w (now w)) ls [] 0 o y (cs.drop o) ∧ wfs ls y
  | [], o, [], _ => by
    intro fuel cs hl hz
    exact ⟨(), by simp only [repLs]; apply List.eq_nil_of_length_eq_zero; rw [List.length_drop, hl]; simp, trivial⟩
  | [], o, _ :: _, h => by simp [fieldsOp] at h
  | fd :: fs, o, ls, h => by
    intro fuel cs hl hz
    rename_i H enc w base spare held
    simp only [fieldsOp, Bool.and_eq_true] at h
    obtain ⟨⟨h1, h2⟩, h3⟩ := h
    have ho := beq_nat h1
    have hO := hf _ _ h2
    obtain ⟨z, hz0⟩ := hz 0 fd rfl
    have hlen : (ls.take (P.cellsOf fd.type)).length + (ls.drop (P.cellsOf fd.type)).length = ls.length := by rw [← List.length_append, List.take_append_drop]
    rw [ho] at hz0
    obtain ⟨y, hy, hF⟩ := hO.op _ _ _ hz0
    obtain ⟨y', hy', hF'⟩ := fields_ok hf h3 fuel cs (by omega) (fun i g hg => hz (i + 1) g (by simpa using hg))
    have e : ls.take (P.cellsOf fd.type) ++ ls.drop (P.cellsOf fd.type) = ls := List.take_append_drop _ _
    have hcs : cs.drop o = (cs.drop o).take (P.cellsOf fd.type) ++ cs.drop (o + (ls.take (P.cellsOf fd.type)).length) := by
      rw [← hO.size, ← List.drop_drop, List.take_append_drop]
    have hall : ∃ y : dens (ls.take (P.cellsOf fd.type) ++ ls.drop (P.cellsOf fd.type)), repLs (roRow w (now w)) (ls.take (P.cellsOf fd.type) ++ ls.drop (P.cellsOf fd.type)) [] 0 o y (cs.drop o) ∧ wfs _ y :=
      ⟨dapp y y', by rw [hcs]; exact repLs_app (ros_off hy) hy', wfs_app hF hF'⟩
    rwa [e] at hall

theorem opn_of {P : Program} : ∀ {n : Nat} {t : TypeId} {ls : List L}, opB P n t ls = true → Opn P t ls
  | 0, _, _, h => by simp [opB] at h
  | n + 1, t, ls, h => by
    simp only [opB, Bool.and_eq_true] at h
    obtain ⟨hsz, h⟩ := h
    have hsz := beq_nat hsz
    split at h
    · next k hu =>
      split at h
      · next k' =>
        have e := kEq_eq h
        subst e
        refine ⟨hsz, fun fuel cs x hx => ?_⟩
        obtain ⟨m, rfl, _, hw⟩ := DataW.trod_int hu hx
        exact ⟨m, by simp only [repLs, repL]; exact ⟨_, rfl, rfl⟩, by simpa only [wfs, wf] using hw⟩
      · cases h
    · next hu =>
      split at h
      · refine ⟨hsz, fun fuel cs x hx => ?_⟩
        obtain ⟨m, rfl, _⟩ := DataW.trod_bool hu hx
        exact ⟨m, by simp only [repLs, repL]; exact ⟨_, rfl, rfl⟩, by simp only [wfs, wf]⟩
      · cases h
    · next hu =>
      split at h
      · refine ⟨hsz, fun fuel cs x hx => ?_⟩
        obtain ⟨m, rfl, _, hs⟩ := DataW.trod_string hu hx
        exact ⟨m, by simp only [repLs, repL]; exact ⟨_, rfl, rfl⟩, by simpa only [wfs, wf] using hs⟩
      · cases h
    · next e hu =>
      split at h
      · next e' els _ =>
        simp only [Bool.and_eq_true] at h
        have e1 := beq_nat h.1
        subst e1
        have he := opn_of h.2
        refine ⟨hsz, fun {H enc w base spare held} fuel cs x hx => ?_⟩
        rcases Deep.open_slice hu hx with ⟨rfl, _⟩ | ⟨a, len, cap, m, n', D, Pl, rfl, hb, hl, hm, hmm, _, hel⟩
        · exact ⟨([] : List (dens els)), by simp only [repLs]; exact ⟨_, rfl, nil_rep ro_nil⟩, by simp [wfs, wf, gt]⟩
        · have hle : len ≤ m := by rw [hmm]; split <;> omega
          obtain ⟨ys, hlen, hys⟩ := list_choose (n := len) (q := fun i (y : dens els) => wfs els y ∧ ∃ cs', w.cells? base (a.add (i * P.cellsOf e)) (P.cellsOf e) = some cs' ∧ repLs (roRow w (now w)) els [] 0 0 y cs') (fun i hi => by
            obtain ⟨cs', h1, h2⟩ := hel i (by omega)
            obtain ⟨y, hy, hF⟩ := he.op _ _ _ h2
            exact ⟨y, hF, cs', h1, hy⟩)
          subst hlen
          have hcell : ∀ i y, ys[i]? = some y → ∃ cs', cs'.length = els.length ∧ repLs (roRow w (now w)) els [] 0 0 y cs' ∧ ∀ j u, cs'[j]? = some u → w.cell? (a.add (i * els.length + j)) = some u := fun i y hy => by
            obtain ⟨_, cs', h1, h2⟩ := hys i y hy
            obtain ⟨_, h4⟩ := World.cells?_some h1
            have h3 := repLs_length h2
            refine ⟨cs', h3, h2, fun j u hu2 => ?_⟩
            have hj : j < cs'.length := (List.getElem?_eq_some_iff.mp hu2).1
            rw [← he.size, ← Deep.add_add]
            rw [h4.2 j (by rw [he.size]; omega), hu2]
          -- all cells
          obtain ⟨all, hal, hac⟩ := list_choose (n := ys.length * els.length) (q := fun j (u : Value) => w.cell? (a.add j) = some u) (fun j hj => by
            have hp : 0 < els.length := by
              rcases Nat.eq_zero_or_pos els.length with h0 | h0
              · rw [h0] at hj; simp at hj
              · exact h0
            have hd : j / els.length < ys.length := Nat.div_lt_of_lt_mul (by rw [Nat.mul_comm]; exact hj)
            obtain ⟨cs', c1, _, c3⟩ := hcell (j / els.length) _ (List.getElem?_eq_getElem hd)
            have hmod : j % els.length < cs'.length := by rw [c1]; exact Nat.mod_lt _ hp
            refine ⟨cs'[j % els.length], ?_⟩
            have := c3 (j % els.length) _ (List.getElem?_eq_getElem hmod)
            rwa [show j / els.length * els.length + j % els.length = j from by rw [Nat.mul_comm]; exact Nat.div_add_mod j _] at this)
          refine ⟨ys, ?_, ?_⟩
          · simp only [repLs, repL]
            refine ⟨_, rfl, all, ⟨some a, cap, rfl, hl, fun hpos => ⟨a, rfl, ?_, fun j u hu2 => hac j u hu2⟩⟩, hal, fun i y hy => ?_⟩
            · have h0 : 0 < all.length := by omega
              have := cell_now (hac 0 _ (List.getElem?_eq_getElem h0))
              rwa [block_of_add] at this
            · obtain ⟨cs', c1, c2, c3⟩ := hcell i y hy
              have hi := (List.getElem?_eq_some_iff.1 (show ys[i]? = some y from hy)).1
              have hseg : (all.drop (i * els.length)).take els.length = cs' := by
                apply List.ext_getElem?
                intro j
                rw [List.getElem?_take]
                split
                · next hj =>
                  have hbnd : i * els.length + j < all.length := by
                    rw [hal]
                    have := Nat.mul_le_mul_right els.length hi
                    rw [Nat.succ_mul] at this
                    omega
                  have hj' : j < cs'.length := by omega
                  rw [List.getElem?_drop, List.getElem?_eq_getElem hbnd, List.getElem?_eq_getElem hj']
                  have h1 := hac _ _ (List.getElem?_eq_getElem hbnd)
                  have h2 := c3 j _ (List.getElem?_eq_getElem hj')
                  rw [h1] at h2
                  exact h2
                · next hj => rw [List.getElem?_eq_none (by omega)]
              rw [hseg]
              exact ros_path c2
          · simp only [wfs, wf]
            exact ⟨by simp only [maxLen]; simp only [maxLen] at hm; omega, fun i y hy => (hys i y hy).1⟩
      · cases h
    · next fs hu =>
      refine ⟨hsz, fun {H enc w base spare held} fuel cs x hx => ?_⟩
      obtain ⟨xs, m, _, _, hl, hxs, hf⟩ := DataW.trod_struct hu hx
      obtain ⟨y, hy, hF⟩ := fields_ok (fun t ls h => opn_of h) h (enc := enc) (w := w) (base := base) (spare := spare) (held := held) m cs (by omega) (fun i f hi => by
        have hi' : fs[i]? = some f := by rw [← Array.getElem?_toList]; exact hi
        have hlt : i < xs.length := by rw [hxs]; exact (Array.getElem?_eq_some_iff.mp hi').1
        exact ⟨_, (hf i f hi').trans (List.getElem?_eq_getElem hlt)⟩)
      exact ⟨y, by simpa using hy, hF⟩
    · cases h
end Go.Ev
end

section
/- Shapes that many functions come to: the sizing, turning and comparing of slices; plain laws on them. -/
set_option linter.unusedVariables false
namespace Go.Ev

def sumN : List Nat → Nat
  | [] => 0
  | a :: l => a + sumN l
mutual
/-- How many letters and elements a value has. -/
def cost : (t : L) → t.den → Nat
  | .int _, _ => 0
  | .bool, _ => 0
  | .str, s => ByteArray.size s
  | .list _ ls, xs => List.length (α := L.dens ls) xs + sumN (List.map (α := L.dens ls) (costs ls) xs)
def costs : (ls : List L) → L.dens ls → Nat
  | [], _ => 0
  | [t], x => cost t x
  | t :: t' :: ts, x => cost t x.1 + costs (t' :: ts) x.2
end
theorem wrapI (n : Int) (h0 : -9223372036854775808 ≤ n) (h1 : n < 9223372036854775808) : IntKind.i64.wrap n = n := by
  rw [IntKind.wrap_i64]; omega
def capI : Int := 1048576
/-- What is left of a budget. -/
def leftI (c : Nat) (k : Int) : Int := if k < (c : Int) then -1 else k - (c : Int)

/-- What a sizing loop over a slice comes to. -/
def szS {α : Type} (d : α) (P : α → Int → Prop) (F : α → Int → Int) (x : List α) (k : Int) (Q : Int → Prop) : Prop :=
  (IntKind.i64.wrap (k - (x.length : Int)) < 0 → Q (-1)) ∧
  (¬ IntKind.i64.wrap (k - (x.length : Int)) < 0 → ∀ Lp : Int × Int → Prop,
    (∀ y : Int × Int, ((y.2 < (x.length : Int) → 0 ≤ y.2 ∧ y.2 < (x.length : Int) ∧ P (x.getD y.2.toNat d) y.1 ∧
        ((F (x.getD y.2.toNat d) y.1 < 0 → Q (-1)) ∧ (¬ F (x.getD y.2.toNat d) y.1 < 0 → Lp (F (x.getD y.2.toNat d) y.1, IntKind.i64.wrap (y.2 + 1))))) ∧
      (¬ y.2 < (x.length : Int) → Q y.1)) → Lp y) → Lp (IntKind.i64.wrap (k - (x.length : Int)), 0))
theorem szS_holds {α : Type} (d : α) (c : α → Nat) (W : α → Prop) (xs : List α) (k : Int) (hlen : xs.length ≤ maxLen) (hw : ∀ (i : Nat) (y : α), gt xs i = some y → W y) (h0 : 0 ≤ k) (h1 : k ≤ capI) :
    szS d (fun y k => W y ∧ 0 ≤ k ∧ k ≤ capI) (fun y k => leftI (c y) k) xs k (fun r => r = leftI (xs.length + sumN (xs.map c)) k) := by
  simp only [maxLen] at hlen
  simp only [capI] at h1
  have hwr : IntKind.i64.wrap (k - (xs.length : Int)) = k - (xs.length : Int) := wrapI _ (by omega) (by omega)
  refine ⟨fun h => ?_, fun h Lp hL => ?_⟩
  · rw [hwr] at h
    unfold leftI
    rw [if_pos (by omega)]
  · rw [hwr] at h ⊢
    have key : ∀ (m i : Nat) (k' : Int), i + m = xs.length → 0 ≤ k' → k' + (sumN ((xs.take i).map c) : Int) = k - (xs.length : Int) → Lp (k', (i : Int)) := by
      intro m
      induction m with
      | zero =>
        intro i k' hi hk0 hk1
        have hi' : i = xs.length := by omega
        refine hL _ ⟨fun hlt => ?_, fun _ => ?_⟩
        · simp only at hlt; omega
        · rw [hi', List.take_length] at hk1
          simp only [leftI]
          rw [if_neg (by omega)]
          omega
      | succ m ih =>
        intro i k' hi hk0 hk1
        have hlt : i < xs.length := by omega
        have hget : xs.getD i d = xs[i] := by rw [List.getD_eq_getElem?_getD, List.getElem?_eq_getElem hlt]; rfl
        have htake : sumN ((xs.take (i + 1)).map c) = sumN ((xs.take i).map c) + c xs[i] := by
          rw [List.take_add_one, List.getElem?_eq_getElem hlt]
          simp only [Option.toList_some, List.map_append, List.map_cons, List.map_nil]
          exact sum_snoc _ _
        have hall : sumN ((xs.take (i + 1)).map c) ≤ sumN (xs.map c) := sum_take _ _
        refine hL _ ⟨fun _ => ⟨by simp only; omega, by simp only; omega, ?_, ?_⟩, fun hn => ?_⟩
        · simp only [Int.toNat_natCast, hget, capI]
          exact ⟨hw i _ (List.getElem?_eq_getElem hlt), hk0, by omega⟩
        · simp only [Int.toNat_natCast, hget, leftI]
          by_cases hc : k' < (c xs[i] : Int)
          · rw [if_pos hc]
            refine ⟨fun _ => ?_, fun h => by omega⟩
            rw [if_pos (by omega)]
          · rw [if_neg hc]
            refine ⟨fun h => by omega, fun _ => ?_⟩
            rw [wrapI _ (by omega) (by omega)]
            exact ih (i + 1) _ (by omega) (by omega) (by omega)
        · simp only at hn; omega
    exact key xs.length 0 _ (by omega) (by omega) (by simp [sumN])
where
  sum_snoc : ∀ (l : List Nat) (a : Nat), sumN (l ++ [a]) = sumN l + a
    | [], a => by simp [sumN]
    | b :: l, a => by simp only [List.cons_append, sumN, sum_snoc l a]; omega
  sum_take {c : α → Nat} : ∀ (l : List α) (i : Nat), sumN ((l.take i).map c) ≤ sumN (l.map c)
    | [], i => by simp
    | a :: l, 0 => by simp [sumN]
    | a :: l, i + 1 => by simp only [List.take_succ_cons, List.map_cons, sumN]; have := sum_take (c := c) l i; omega

/-- What a comparing loop over two slices comes to. -/
def eqS {α : Type} (d : α) (P : α → α → Prop) (F : α → α → Bool) (x y : List α) (Q : Bool → Prop) : Prop :=
  ((x.length : Int) ≠ (y.length : Int) → Q false) ∧ (¬ (x.length : Int) ≠ (y.length : Int) → ∀ Lp : Int → Prop,
    (∀ i : Int, ((i < (x.length : Int) → 0 ≤ i ∧ i < (x.length : Int) ∧ 0 ≤ i ∧ i < (y.length : Int) ∧ P (x.getD i.toNat d) (y.getD i.toNat d) ∧
        ((¬ F (x.getD i.toNat d) (y.getD i.toNat d) = true → Q false) ∧ (¬ ¬ F (x.getD i.toNat d) (y.getD i.toNat d) = true → Lp (IntKind.i64.wrap (i + 1))))) ∧
      (¬ i < (x.length : Int) → Q true)) → Lp i) → Lp 0)
theorem eqS_holds {α : Type} (d : α) (P : α → α → Prop) (F : α → α → Bool) (x y : List α) (hlen : x.length ≤ maxLen) (hP : ∀ (i : Nat) (a b : α), gt x i = some a → P a b) (hF : ∀ a b, F a b = true ↔ a = b) {R : Bool} (hR : R = true ↔ x = y) :
    eqS d P F x y (fun r => r = R) := by
  simp only [maxLen] at hlen
  have hf : ∀ {p : Prop}, (p → ¬ x = y) → p → false = R := fun h hp => by
    cases R with
    | false => rfl
    | true => exact absurd (hR.1 rfl) (h hp)
  refine ⟨fun h => hf (p := True) (fun _ e => h (by rw [e])) trivial, fun h Lp hL => ?_⟩
  have hl : x.length = y.length := by
    have : (x.length : Int) = (y.length : Int) := Classical.byContradiction h
    omega
  have key : ∀ (m i : Nat), i + m = x.length → x.take i = y.take i → Lp (i : Int) := by
    intro m
    induction m with
    | zero =>
      intro i hi ht
      refine hL _ ⟨fun hlt => by omega, fun _ => ?_⟩
      rw [show i = x.length by omega, List.take_length, hl, List.take_length] at ht
      exact (hR.2 ht).symm
    | succ m ih =>
      intro i hi ht
      have hlt : i < x.length := by omega
      have hlt' : i < y.length := by omega
      have hgx : x.getD i d = x[i] := by rw [List.getD_eq_getElem?_getD, List.getElem?_eq_getElem hlt]; rfl
      have hgy : y.getD i d = y[i] := by rw [List.getD_eq_getElem?_getD, List.getElem?_eq_getElem hlt']; rfl
      refine hL _ ⟨fun _ => ?_, fun hn => by omega⟩
      simp only [Int.toNat_natCast, hgx, hgy]
      refine ⟨by omega, by omega, by omega, by omega, hP i _ _ (List.getElem?_eq_getElem hlt), fun hne => ?_, fun heq => ?_⟩
      · refine hf (p := ¬ F x[i] y[i] = true) (fun h e => h ((hF _ _).2 ?_)) hne
        subst e
        rfl
      · rw [wrapI _ (by omega) (by omega)]
        have he : x[i] = y[i] := (hF _ _).1 (Classical.byContradiction heq)
        refine ih (i + 1) (by omega) ?_
        rw [List.take_add_one, List.take_add_one, ht, List.getElem?_eq_getElem hlt, List.getElem?_eq_getElem hlt', he]
  exact key x.length 0 (by omega) (by simp)

/-- What a turning loop over a slice comes to. -/
def toS {α : Type} (d : α) (b : Nat) (P : α → Prop) (x : List α) (Q : List α → Prop) : Prop :=
  (x.length : Int) = (x.length : Int) ∧ 0 ≤ (x.length : Int) ∧ (x.length : Int) * (b : Int) ≤ 140737488355328 ∧ ∀ Lp : List α × Int → Prop,
    (∀ y : List α × Int, ((y.2 < (x.length : Int) → 0 ≤ y.2 ∧ y.2 < (x.length : Int) ∧ P (x.getD y.2.toNat d) ∧ 0 ≤ y.2 ∧ y.2 < (y.1.length : Int) ∧ Lp (y.1.set y.2.toNat (x.getD y.2.toNat d), IntKind.i64.wrap (y.2 + 1))) ∧
      (¬ y.2 < (x.length : Int) → Q y.1)) → Lp y) → Lp (List.replicate (x.length : Int).toNat d, 0)
theorem toS_holds {α : Type} (d : α) (b : Nat) (P : α → Prop) (x : List α) (hlen : x.length ≤ 1048576) (hb : b ≤ 1048576) (hP : ∀ (i : Nat) (a : α), gt x i = some a → P a) {Q : List α → Prop} (hQ : Q x) : toS d b P x Q := by
  have hmul : x.length * b ≤ 1048576 * 1048576 := Nat.mul_le_mul hlen hb
  refine ⟨rfl, by omega, by rw [← Int.natCast_mul]; omega, fun Lp hL => ?_⟩
  have key : ∀ (m i : Nat), i + m = x.length → Lp (x.take i ++ List.replicate m d, (i : Int)) := by
    intro m
    induction m with
    | zero =>
      intro i hi
      refine hL _ ⟨fun hlt => by simp only at hlt; omega, fun _ => ?_⟩
      simp only [List.replicate_zero, List.append_nil]
      rw [show i = x.length by omega, List.take_length]
      exact hQ
    | succ m ih =>
      intro i hi
      have hlt : i < x.length := by omega
      have hgx : x.getD i d = x[i] := by rw [List.getD_eq_getElem?_getD, List.getElem?_eq_getElem hlt]; rfl
      refine hL _ ⟨fun _ => ?_, fun hn => by simp only at hn; omega⟩
      simp only [Int.toNat_natCast, hgx]
      refine ⟨by omega, by omega, hP i _ (List.getElem?_eq_getElem hlt), by omega, by simp only [List.length_append, List.length_take, List.length_replicate]; omega, ?_⟩
      rw [wrapI _ (by omega) (by omega)]
      have hset : (x.take i ++ List.replicate (m + 1) d).set i x[i] = x.take (i + 1) ++ List.replicate m d := by
        rw [List.set_append_right _ _ (by rw [List.length_take]; omega), List.length_take, show i - min i x.length = 0 by omega, List.replicate_succ, List.set_cons_zero, show x.take (i + 1) = x.take i ++ [x[i]] from by rw [List.take_add_one, List.getElem?_eq_getElem hlt]; rfl, List.append_assoc]
        rfl
      rw [hset]
      exact ih (i + 1) (by omega)
  have := key x.length 0 (by omega)
  simpa using this

/-! ### Sizing a struct -/
inductive SzStep (α : Type) where
  | str (g : α → ByteArray)
  | call (W : α → Prop) (c : α → Nat)
/-- What the sizing of a struct comes to: field by field. -/
def szSt {α : Type} (x : α) : List (SzStep α) → Int → (Int → Prop) → Prop
  | [], k, Q => Q k
  | .str g :: r, k, Q => (IntKind.i64.wrap (k - ((g x).size : Int)) < 0 → Q (-1)) ∧ (¬ IntKind.i64.wrap (k - ((g x).size : Int)) < 0 → szSt x r (IntKind.i64.wrap (k - ((g x).size : Int))) Q)
  | .call W c :: r, k, Q => (W x ∧ 0 ≤ k ∧ k ≤ capI) ∧ ((leftI (c x) k < 0 → Q (-1)) ∧ (¬ leftI (c x) k < 0 → szSt x r (leftI (c x) k) Q))
def szSum {α : Type} (x : α) : List (SzStep α) → Nat
  | [] => 0
  | .str g :: r => (g x).size + szSum x r
  | .call _ c :: r => c x + szSum x r
def szFine {α : Type} (x : α) : List (SzStep α) → Prop
  | [] => True
  | .str g :: r => wf .str (g x) ∧ szFine x r
  | .call W _ :: r => W x ∧ szFine x r
theorem szSt_holds {α : Type} (x : α) : ∀ (l : List (SzStep α)) (k : Int) (n : Nat), szFine x l → 0 ≤ k → k ≤ capI → szSum x l = n → szSt x l k (fun r => r = leftI n k)
  | [], k, n, _, h0, h1, hn => by
    simp only [szSum] at hn
    subst hn
    simp only [szSt, leftI]
    rw [if_neg (by omega)]
    omega
  | .str g :: r, k, n, hf, h0, h1, hn => by
    simp only [szFine, wf, maxLen] at hf
    simp only [szSum] at hn
    simp only [capI] at h1
    have hw := wrapI (k - ((g x).size : Int)) (by omega) (by omega)
    simp only [szSt, hw]
    refine ⟨fun h => ?_, fun h => ?_⟩
    · unfold leftI
      rw [if_pos (by omega)]
    · have := szSt_holds x r (k - ((g x).size : Int)) (szSum x r) hf.2 (by omega) (by simp only [capI]; omega) rfl
      have e : leftI (szSum x r) (k - ((g x).size : Int)) = leftI n k := by
        unfold leftI
        by_cases hc : k - ((g x).size : Int) < (szSum x r : Int)
        · rw [if_pos hc, if_pos (by omega)]
        · rw [if_neg hc, if_neg (by omega)]; omega
      rwa [e] at this
  | .call W c :: r, k, n, hf, h0, h1, hn => by
    simp only [szFine] at hf
    simp only [szSum] at hn
    simp only [szSt]
    refine ⟨⟨hf.1, h0, h1⟩, fun h => ?_, fun h => ?_⟩
    · unfold leftI at h ⊢
      by_cases hc : k < (c x : Int)
      · rw [if_pos (by omega)]
      · rw [if_neg hc] at h; omega
    · have hk : leftI (c x) k = k - (c x : Int) := by
        unfold leftI at h ⊢
        by_cases hc : k < (c x : Int)
        · rw [if_pos hc] at h; omega
        · rw [if_neg hc]
      rw [hk] at h ⊢
      simp only [capI] at h1
      have := szSt_holds x r (k - (c x : Int)) (szSum x r) hf.2 (by omega) (by simp only [capI]; omega) rfl
      have e : leftI (szSum x r) (k - (c x : Int)) = leftI n k := by
        unfold leftI
        by_cases hc : k - (c x : Int) < (szSum x r : Int)
        · rw [if_pos hc, if_pos (by omega)]
        · rw [if_neg hc, if_neg (by omega)]; omega
      rwa [e] at this
/-! ### Comparing structs -/
inductive EqStep (α : Type) where
  | ne (p : α → α → Prop)
  | call (W : α → α → Prop) (F : α → α → Bool)
/-- What the comparing of two structs comes to: field by field. -/
def eqSt {α : Type} (x y : α) : List (EqStep α) → (Bool → Prop) → Prop
  | [], Q => Q true
  | .ne p :: r, Q => (p x y → Q false) ∧ (¬ p x y → eqSt x y r Q)
  | .call W F :: r, Q => W x y ∧ ((¬ F x y = true → Q false) ∧ (¬ ¬ F x y = true → eqSt x y r Q))
def eqAll {α : Type} (x y : α) : List (EqStep α) → Prop
  | [] => True
  | .ne p :: r => ¬ p x y ∧ eqAll x y r
  | .call _ F :: r => F x y = true ∧ eqAll x y r
def eqFine {α : Type} (x y : α) : List (EqStep α) → Prop
  | [] => True
  | .ne _ :: r => eqFine x y r
  | .call W _ :: r => W x y ∧ eqFine x y r
theorem eqSt_holds {α : Type} (x y : α) : ∀ (l : List (EqStep α)) {R : Bool}, eqFine x y l → (R = true ↔ eqAll x y l) → eqSt x y l (fun r => r = R)
  | [], R, _, hR => by
    simp only [eqSt]
    exact (hR.2 trivial).symm
  | .ne p :: r, R, hf, hR => by
    simp only [eqSt]
    refine ⟨fun h => ?_, fun h => eqSt_holds x y r hf (hR.trans ⟨fun h => h.2, fun h' => ⟨h, h'⟩⟩)⟩
    cases R with
    | false => rfl
    | true => exact absurd h (hR.1 rfl).1
  | .call W F :: r, R, hf, hR => by
    simp only [eqSt]
    refine ⟨hf.1, fun h => ?_, fun h => eqSt_holds x y r hf.2 (hR.trans ⟨fun h => h.2, fun h' => ⟨Classical.byContradiction h, h'⟩⟩)⟩
    cases R with
    | false => rfl
    | true => exact absurd (hR.1 rfl).1 h
def eqB (ls : List L) (x y : dens ls) : Bool := @decide (x = y) (L.deqs ls x y)
theorem eqB_iff {ls : List L} {x y : dens ls} : eqB ls x y = true ↔ x = y := @decide_eq_true_iff _ (L.deqs ls x y)
theorem sumN_mem : ∀ {l : List Nat} {a : Nat}, a ∈ l → a ≤ sumN l
  | b :: l, a, h => by
    simp only [sumN]
    rcases List.mem_cons.1 h with rfl | h
    · omega
    · have := sumN_mem h; omega
theorem costs_len {e : TypeId} {ls : List L} (x : List (dens ls)) (h : costs [.list e ls] x ≤ 1048576) : x.length ≤ 1048576 := by
  simp only [costs, cost] at h
  exact Nat.le_trans (Nat.le_add_right _ _) h
theorem costs_mem {e : TypeId} {ls : List L} (x : List (dens ls)) (h : costs [.list e ls] x ≤ 1048576) (i : Nat) (a : dens ls) (ha : gt x i = some a) : costs ls a ≤ 1048576 := by
  simp only [costs, cost] at h
  have hm : costs ls a ∈ List.map (α := dens ls) (costs ls) x := List.mem_map.2 ⟨a, List.mem_of_getElem? ha, rfl⟩
  have := sumN_mem hm
  exact Nat.le_trans this (Nat.le_trans (Nat.le_add_left _ _) h)
theorem wf_str (s : ByteArray) : wf .str s = (ByteArray.size s ≤ maxLen) := by simp only [wf]
end Go.Ev
end

section
/- The plain library, first part: canonical types of the program's data, texts as lists of bytes, loops by measure. -/
set_option linter.unusedVariables false
namespace Go.Ev
abbrev S := ByteArray
abbrev Fld : Type := S × S
abbrev Req : Type := S × S × List Fld × S
abbrev Rsp : Type := Int × List Fld × S
abbrev Sto : Type := S × List Fld × Int × List Fld × S × Int × Int
abbrev Slt : Type := S × List Fld × Int × List Fld × S × Int × Int × Bool
abbrev Shd : Type := Int × Int × List Slt × Int
abbrev Gen : Type := S × Int
abbrev Cch : Type := List Shd × List Gen
abbrev Flt : Type := S × Bool × Int × Bool × Bool × S × S × List Fld × S × Int × List Fld × S × Int × Int
abbrev Rsc : Type := S × S × Int × Int × Bool × Bool × List Fld
abbrev Tld : Type := Int × Int × List Fld × S
abbrev Evt : Type := Int × Int × Int × S × Int × Int
abbrev Cnn : Type := Int × S × Int × S × S × List Fld × S × S × S × List Fld × S × S × List Fld × Int × List Fld × S × Int × Int × Bool × Int × Int × Int × Int × Bool × Int × List Fld × S × List Tld
abbrev Wld : Type := Int × Int × List Cnn × List Shd × List Gen × List Flt × List Rsc × List Evt

/-! ### Default elements -/
class Dft (α : Type) where
  dft : α
instance : Dft Int := ⟨0⟩
instance : Dft Bool := ⟨false⟩
instance : Dft ByteArray := ⟨ByteArray.empty⟩
instance {α : Type} : Dft (List α) := ⟨[]⟩
instance {α β : Type} [Dft α] [Dft β] : Dft (α × β) := ⟨(Dft.dft, Dft.dft)⟩
/-- A list's element. -/
def rx {α : Type} [Dft α] (xs : List α) (i : Int) : α := xs.getD i.toNat Dft.dft
theorem rx_nat {α : Type} [Dft α] (xs : List α) (i : Nat) (h : i < xs.length) : rx xs (i : Int) = xs[i] := by
  unfold rx
  rw [Int.toNat_natCast, List.getD_eq_getElem?_getD, List.getElem?_eq_getElem h]; rfl

/-! ### What data weighs, and that it is fine -/
class Cz (α : Type) where
  czOf : α → Nat
/-- How many letters and elements a value has. -/
def cz {α : Type} [Cz α] (x : α) : Nat := Cz.czOf x
instance : Cz Int := ⟨fun _ => 0⟩
instance : Cz Bool := ⟨fun _ => 0⟩
instance : Cz ByteArray := ⟨fun s => s.size⟩
instance {α : Type} [Cz α] : Cz (List α) := ⟨fun xs => xs.length + sumN (xs.map cz)⟩
instance {α β : Type} [Cz α] [Cz β] : Cz (α × β) := ⟨fun x => cz x.1 + cz x.2⟩
theorem cz_int (x : Int) : cz x = 0 := rfl
theorem cz_bool (x : Bool) : cz x = 0 := rfl
theorem cz_str (x : ByteArray) : cz x = x.size := rfl
theorem cz_list {α : Type} [Cz α] (xs : List α) : cz xs = xs.length + sumN (xs.map cz) := rfl
theorem cz_pair {α β : Type} [Cz α] [Cz β] (x : α × β) : cz x = cz x.1 + cz x.2 := rfl
theorem czt {α β : Type} [Cz α] [Cz β] {x : α × β} {n : Nat} (h : cz x ≤ n) : cz x.2 ≤ n := by rw [cz_pair] at h; omega
theorem czh {α β : Type} [Cz α] [Cz β] {x : α × β} {n : Nat} (h : cz x ≤ n) : cz x.1 ≤ n := by rw [cz_pair] at h; omega
theorem czm2 {α β γ : Type} [Cz α] [Cz β] [Cz γ] {x : α × β × γ} {n : Nat} (h : cz x ≤ n) : cz (x.1, x.2.1) ≤ n := by simp only [cz_pair] at h ⊢; omega
theorem czm3 {α β γ δ : Type} [Cz α] [Cz β] [Cz γ] [Cz δ] {x : α × β × γ × δ} {n : Nat} (h : cz x ≤ n) : cz (x.1, x.2.1, x.2.2.1) ≤ n := by simp only [cz_pair] at h ⊢; omega
theorem czm4 {α β γ δ ε : Type} [Cz α] [Cz β] [Cz γ] [Cz δ] [Cz ε] {x : α × β × γ × δ × ε} {n : Nat} (h : cz x ≤ n) : cz (x.1, x.2.1, x.2.2.1, x.2.2.2.1) ≤ n := by simp only [cz_pair] at h ⊢; omega
theorem czm7 {α β γ δ ε ζ η θ : Type} [Cz α] [Cz β] [Cz γ] [Cz δ] [Cz ε] [Cz ζ] [Cz η] [Cz θ] {x : α × β × γ × δ × ε × ζ × η × θ} {n : Nat} (h : cz x ≤ n) : cz (x.1, x.2.1, x.2.2.1, x.2.2.2.1, x.2.2.2.2.1, x.2.2.2.2.2.1, x.2.2.2.2.2.2.1) ≤ n := by simp only [cz_pair] at h ⊢; omega
theorem cz_len {α : Type} [Cz α] (xs : List α) : xs.length ≤ cz xs := by rw [cz_list]; omega
theorem cz_mem {α : Type} [Cz α] {xs : List α} {x : α} (h : x ∈ xs) : cz x + 1 ≤ cz xs := by
  rw [cz_list]
  have h1 := sumN_mem (List.mem_map.2 ⟨x, h, rfl⟩ : cz x ∈ xs.map cz)
  have h2 : 0 < xs.length := List.length_pos_of_mem h
  omega

def in64 (n : Int) : Prop := -9223372036854775808 ≤ n ∧ n ≤ 9223372036854775807
class Wd (α : Type) where
  wdOf : α → Prop
/-- A value is fine. -/
def wd {α : Type} [Wd α] (x : α) : Prop := Wd.wdOf x
instance : Wd Int := ⟨fun n => (Lit.int .i64 n).wf = true⟩
instance : Wd Bool := ⟨fun _ => True⟩
instance : Wd ByteArray := ⟨fun s => s.size ≤ maxLen⟩
instance {α : Type} [Wd α] : Wd (List α) := ⟨fun xs => xs.length ≤ maxLen ∧ ∀ (i : Nat) (x : α), gt xs i = some x → wd x⟩
instance {α β : Type} [Wd α] [Wd β] : Wd (α × β) := ⟨fun x => wd x.1 ∧ wd x.2⟩
/-! Instances for long tuples, piece by piece. -/
instance : DecidableEq (List Fld × S) := @instDecidableEqProd _ _ inferInstance inferInstance
instance : DecidableEq (Int × List Fld × S) := @instDecidableEqProd _ _ inferInstance inferInstance
instance : Dft (Int × List Fld × S) := inferInstance
instance : Cz (Int × List Fld × S) := inferInstance
instance : Wd (Int × List Fld × S) := inferInstance
instance : DecidableEq (S × List Fld × S) := @instDecidableEqProd _ _ inferInstance inferInstance
instance : DecidableEq (S × S × List Fld × S) := @instDecidableEqProd _ _ inferInstance inferInstance
instance : Dft (S × S × List Fld × S) := inferInstance
instance : Cz (S × S × List Fld × S) := inferInstance
instance : Wd (S × S × List Fld × S) := inferInstance
instance : DecidableEq (Int × Int × List Fld × S) := @instDecidableEqProd _ _ inferInstance inferInstance
instance : Dft (Int × Int × List Fld × S) := inferInstance
instance : Cz (Int × Int × List Fld × S) := inferInstance
instance : Wd (Int × Int × List Fld × S) := inferInstance
instance : DecidableEq (Int × Int) := @instDecidableEqProd _ _ inferInstance inferInstance
instance : DecidableEq (S × Int × Int) := @instDecidableEqProd _ _ inferInstance inferInstance
instance : DecidableEq (List Fld × S × Int × Int) := @instDecidableEqProd _ _ inferInstance inferInstance
instance : Dft (List Fld × S × Int × Int) := inferInstance
instance : Cz (List Fld × S × Int × Int) := inferInstance
instance : Wd (List Fld × S × Int × Int) := inferInstance
instance : DecidableEq (Int × List Fld × S × Int × Int) := @instDecidableEqProd _ _ inferInstance inferInstance
instance : DecidableEq (List Fld × Int × List Fld × S × Int × Int) := @instDecidableEqProd _ _ inferInstance inferInstance
instance : DecidableEq (S × List Fld × Int × List Fld × S × Int × Int) := @instDecidableEqProd _ _ inferInstance inferInstance
instance : Dft (S × List Fld × Int × List Fld × S × Int × Int) := inferInstance
instance : Cz (S × List Fld × Int × List Fld × S × Int × Int) := inferInstance
instance : Wd (S × List Fld × Int × List Fld × S × Int × Int) := inferInstance
instance : DecidableEq (Int × Bool) := @instDecidableEqProd _ _ inferInstance inferInstance
instance : DecidableEq (Int × Int × Bool) := @instDecidableEqProd _ _ inferInstance inferInstance
instance : DecidableEq (S × Int × Int × Bool) := @instDecidableEqProd _ _ inferInstance inferInstance
instance : Dft (S × Int × Int × Bool) := inferInstance
instance : Cz (S × Int × Int × Bool) := inferInstance
instance : Wd (S × Int × Int × Bool) := inferInstance
instance : DecidableEq (List Fld × S × Int × Int × Bool) := @instDecidableEqProd _ _ inferInstance inferInstance
instance : DecidableEq (Int × List Fld × S × Int × Int × Bool) := @instDecidableEqProd _ _ inferInstance inferInstance
instance : DecidableEq (List Fld × Int × List Fld × S × Int × Int × Bool) := @instDecidableEqProd _ _ inferInstance inferInstance
instance : DecidableEq (S × List Fld × Int × List Fld × S × Int × Int × Bool) := @instDecidableEqProd _ _ inferInstance inferInstance
instance : Dft (S × List Fld × Int × List Fld × S × Int × Int × Bool) := inferInstance
instance : Cz (S × List Fld × Int × List Fld × S × Int × Int × Bool) := inferInstance
instance : Wd (S × List Fld × Int × List Fld × S × Int × Int × Bool) := inferInstance
instance : DecidableEq (List Slt × Int) := @instDecidableEqProd _ _ inferInstance inferInstance
instance : DecidableEq (Int × List Slt × Int) := @instDecidableEqProd _ _ inferInstance inferInstance
instance : DecidableEq (Int × Int × List Slt × Int) := @instDecidableEqProd _ _ inferInstance inferInstance
instance : Dft (Int × Int × List Slt × Int) := inferInstance
instance : Cz (Int × Int × List Slt × Int) := inferInstance
instance : Wd (Int × Int × List Slt × Int) := inferInstance
instance : DecidableEq (S × Int) := @instDecidableEqProd _ _ inferInstance inferInstance
instance : Dft (S × Int) := inferInstance
instance : Cz (S × Int) := inferInstance
instance : Wd (S × Int) := inferInstance
instance : DecidableEq (S × Int × List Fld × S × Int × Int) := @instDecidableEqProd _ _ inferInstance inferInstance
instance : DecidableEq (List Fld × S × Int × List Fld × S × Int × Int) := @instDecidableEqProd _ _ inferInstance inferInstance
instance : DecidableEq (S × List Fld × S × Int × List Fld × S × Int × Int) := @instDecidableEqProd _ _ inferInstance inferInstance
instance : Dft (S × List Fld × S × Int × List Fld × S × Int × Int) := inferInstance
instance : Cz (S × List Fld × S × Int × List Fld × S × Int × Int) := inferInstance
instance : Wd (S × List Fld × S × Int × List Fld × S × Int × Int) := inferInstance
instance : DecidableEq (S × S × List Fld × S × Int × List Fld × S × Int × Int) := @instDecidableEqProd _ _ inferInstance inferInstance
instance : DecidableEq (Bool × S × S × List Fld × S × Int × List Fld × S × Int × Int) := @instDecidableEqProd _ _ inferInstance inferInstance
instance : DecidableEq (Bool × Bool × S × S × List Fld × S × Int × List Fld × S × Int × Int) := @instDecidableEqProd _ _ inferInstance inferInstance
instance : DecidableEq (Int × Bool × Bool × S × S × List Fld × S × Int × List Fld × S × Int × Int) := @instDecidableEqProd _ _ inferInstance inferInstance
instance : Dft (Int × Bool × Bool × S × S × List Fld × S × Int × List Fld × S × Int × Int) := inferInstance
instance : Cz (Int × Bool × Bool × S × S × List Fld × S × Int × List Fld × S × Int × Int) := inferInstance
instance : Wd (Int × Bool × Bool × S × S × List Fld × S × Int × List Fld × S × Int × Int) := inferInstance
instance : DecidableEq (Bool × Int × Bool × Bool × S × S × List Fld × S × Int × List Fld × S × Int × Int) := @instDecidableEqProd _ _ inferInstance inferInstance
instance : DecidableEq (S × Bool × Int × Bool × Bool × S × S × List Fld × S × Int × List Fld × S × Int × Int) := @instDecidableEqProd _ _ inferInstance inferInstance
instance : Dft (S × Bool × Int × Bool × Bool × S × S × List Fld × S × Int × List Fld × S × Int × Int) := inferInstance
instance : Cz (S × Bool × Int × Bool × Bool × S × S × List Fld × S × Int × List Fld × S × Int × Int) := inferInstance
instance : Wd (S × Bool × Int × Bool × Bool × S × S × List Fld × S × Int × List Fld × S × Int × Int) := inferInstance
instance : DecidableEq (Bool × List Fld) := @instDecidableEqProd _ _ inferInstance inferInstance
instance : DecidableEq (Bool × Bool × List Fld) := @instDecidableEqProd _ _ inferInstance inferInstance
instance : DecidableEq (Int × Bool × Bool × List Fld) := @instDecidableEqProd _ _ inferInstance inferInstance
instance : Dft (Int × Bool × Bool × List Fld) := inferInstance
instance : Cz (Int × Bool × Bool × List Fld) := inferInstance
instance : Wd (Int × Bool × Bool × List Fld) := inferInstance
instance : DecidableEq (Int × Int × Bool × Bool × List Fld) := @instDecidableEqProd _ _ inferInstance inferInstance
instance : DecidableEq (S × Int × Int × Bool × Bool × List Fld) := @instDecidableEqProd _ _ inferInstance inferInstance
instance : DecidableEq (S × S × Int × Int × Bool × Bool × List Fld) := @instDecidableEqProd _ _ inferInstance inferInstance
instance : Dft (S × S × Int × Int × Bool × Bool × List Fld) := inferInstance
instance : Cz (S × S × Int × Int × Bool × Bool × List Fld) := inferInstance
instance : Wd (S × S × Int × Int × Bool × Bool × List Fld) := inferInstance
instance : DecidableEq (Int × S × Int × Int) := @instDecidableEqProd _ _ inferInstance inferInstance
instance : Dft (Int × S × Int × Int) := inferInstance
instance : Cz (Int × S × Int × Int) := inferInstance
instance : Wd (Int × S × Int × Int) := inferInstance
instance : DecidableEq (Int × Int × S × Int × Int) := @instDecidableEqProd _ _ inferInstance inferInstance
instance : DecidableEq (Int × Int × Int × S × Int × Int) := @instDecidableEqProd _ _ inferInstance inferInstance
instance : Dft (Int × Int × Int × S × Int × Int) := inferInstance
instance : Cz (Int × Int × Int × S × Int × Int) := inferInstance
instance : Wd (Int × Int × Int × S × Int × Int) := inferInstance
instance : DecidableEq (S × List Tld) := @instDecidableEqProd _ _ inferInstance inferInstance
instance : DecidableEq (List Fld × S × List Tld) := @instDecidableEqProd _ _ inferInstance inferInstance
instance : DecidableEq (Int × List Fld × S × List Tld) := @instDecidableEqProd _ _ inferInstance inferInstance
instance : Dft (Int × List Fld × S × List Tld) := inferInstance
instance : Cz (Int × List Fld × S × List Tld) := inferInstance
instance : Wd (Int × List Fld × S × List Tld) := inferInstance
instance : DecidableEq (Bool × Int × List Fld × S × List Tld) := @instDecidableEqProd _ _ inferInstance inferInstance
instance : DecidableEq (Int × Bool × Int × List Fld × S × List Tld) := @instDecidableEqProd _ _ inferInstance inferInstance
instance : DecidableEq (Int × Int × Bool × Int × List Fld × S × List Tld) := @instDecidableEqProd _ _ inferInstance inferInstance
instance : DecidableEq (Int × Int × Int × Bool × Int × List Fld × S × List Tld) := @instDecidableEqProd _ _ inferInstance inferInstance
instance : Dft (Int × Int × Int × Bool × Int × List Fld × S × List Tld) := inferInstance
instance : Cz (Int × Int × Int × Bool × Int × List Fld × S × List Tld) := inferInstance
instance : Wd (Int × Int × Int × Bool × Int × List Fld × S × List Tld) := inferInstance
instance : DecidableEq (Int × Int × Int × Int × Bool × Int × List Fld × S × List Tld) := @instDecidableEqProd _ _ inferInstance inferInstance
instance : DecidableEq (Bool × Int × Int × Int × Int × Bool × Int × List Fld × S × List Tld) := @instDecidableEqProd _ _ inferInstance inferInstance
instance : DecidableEq (Int × Bool × Int × Int × Int × Int × Bool × Int × List Fld × S × List Tld) := @instDecidableEqProd _ _ inferInstance inferInstance
instance : DecidableEq (Int × Int × Bool × Int × Int × Int × Int × Bool × Int × List Fld × S × List Tld) := @instDecidableEqProd _ _ inferInstance inferInstance
instance : Dft (Int × Int × Bool × Int × Int × Int × Int × Bool × Int × List Fld × S × List Tld) := inferInstance
instance : Cz (Int × Int × Bool × Int × Int × Int × Int × Bool × Int × List Fld × S × List Tld) := inferInstance
instance : Wd (Int × Int × Bool × Int × Int × Int × Int × Bool × Int × List Fld × S × List Tld) := inferInstance
instance : DecidableEq (S × Int × Int × Bool × Int × Int × Int × Int × Bool × Int × List Fld × S × List Tld) := @instDecidableEqProd _ _ inferInstance inferInstance
instance : DecidableEq (List Fld × S × Int × Int × Bool × Int × Int × Int × Int × Bool × Int × List Fld × S × List Tld) := @instDecidableEqProd _ _ inferInstance inferInstance
instance : DecidableEq (Int × List Fld × S × Int × Int × Bool × Int × Int × Int × Int × Bool × Int × List Fld × S × List Tld) := @instDecidableEqProd _ _ inferInstance inferInstance
instance : DecidableEq (List Fld × Int × List Fld × S × Int × Int × Bool × Int × Int × Int × Int × Bool × Int × List Fld × S × List Tld) := @instDecidableEqProd _ _ inferInstance inferInstance
instance : Dft (List Fld × Int × List Fld × S × Int × Int × Bool × Int × Int × Int × Int × Bool × Int × List Fld × S × List Tld) := inferInstance
instance : Cz (List Fld × Int × List Fld × S × Int × Int × Bool × Int × Int × Int × Int × Bool × Int × List Fld × S × List Tld) := inferInstance
instance : Wd (List Fld × Int × List Fld × S × Int × Int × Bool × Int × Int × Int × Int × Bool × Int × List Fld × S × List Tld) := inferInstance
instance : DecidableEq (S × List Fld × Int × List Fld × S × Int × Int × Bool × Int × Int × Int × Int × Bool × Int × List Fld × S × List Tld) := @instDecidableEqProd _ _ inferInstance inferInstance
instance : DecidableEq (S × S × List Fld × Int × List Fld × S × Int × Int × Bool × Int × Int × Int × Int × Bool × Int × List Fld × S × List Tld) := @instDecidableEqProd _ _ inferInstance inferInstance
instance : DecidableEq (List Fld × S × S × List Fld × Int × List Fld × S × Int × Int × Bool × Int × Int × Int × Int × Bool × Int × List Fld × S × List Tld) := @instDecidableEqProd _ _ inferInstance inferInstance
instance : DecidableEq (S × List Fld × S × S × List Fld × Int × List Fld × S × Int × Int × Bool × Int × Int × Int × Int × Bool × Int × List Fld × S × List Tld) := @instDecidableEqProd _ _ inferInstance inferInstance
instance : Dft (S × List Fld × S × S × List Fld × Int × List Fld × S × Int × Int × Bool × Int × Int × Int × Int × Bool × Int × List Fld × S × List Tld) := inferInstance
instance : Cz (S × List Fld × S × S × List Fld × Int × List Fld × S × Int × Int × Bool × Int × Int × Int × Int × Bool × Int × List Fld × S × List Tld) := inferInstance
instance : Wd (S × List Fld × S × S × List Fld × Int × List Fld × S × Int × Int × Bool × Int × Int × Int × Int × Bool × Int × List Fld × S × List Tld) := inferInstance
instance : DecidableEq (S × S × List Fld × S × S × List Fld × Int × List Fld × S × Int × Int × Bool × Int × Int × Int × Int × Bool × Int × List Fld × S × List Tld) := @instDecidableEqProd _ _ inferInstance inferInstance
instance : DecidableEq (S × S × S × List Fld × S × S × List Fld × Int × List Fld × S × Int × Int × Bool × Int × Int × Int × Int × Bool × Int × List Fld × S × List Tld) := @instDecidableEqProd _ _ inferInstance inferInstance
instance : DecidableEq (List Fld × S × S × S × List Fld × S × S × List Fld × Int × List Fld × S × Int × Int × Bool × Int × Int × Int × Int × Bool × Int × List Fld × S × List Tld) := @instDecidableEqProd _ _ inferInstance inferInstance
instance : DecidableEq (S × List Fld × S × S × S × List Fld × S × S × List Fld × Int × List Fld × S × Int × Int × Bool × Int × Int × Int × Int × Bool × Int × List Fld × S × List Tld) := @instDecidableEqProd _ _ inferInstance inferInstance
instance : Dft (S × List Fld × S × S × S × List Fld × S × S × List Fld × Int × List Fld × S × Int × Int × Bool × Int × Int × Int × Int × Bool × Int × List Fld × S × List Tld) := inferInstance
instance : Cz (S × List Fld × S × S × S × List Fld × S × S × List Fld × Int × List Fld × S × Int × Int × Bool × Int × Int × Int × Int × Bool × Int × List Fld × S × List Tld) := inferInstance
instance : Wd (S × List Fld × S × S × S × List Fld × S × S × List Fld × Int × List Fld × S × Int × Int × Bool × Int × Int × Int × Int × Bool × Int × List Fld × S × List Tld) := inferInstance
instance : DecidableEq (S × S × List Fld × S × S × S × List Fld × S × S × List Fld × Int × List Fld × S × Int × Int × Bool × Int × Int × Int × Int × Bool × Int × List Fld × S × List Tld) := @instDecidableEqProd _ _ inferInstance inferInstance
instance : DecidableEq (Int × S × S × List Fld × S × S × S × List Fld × S × S × List Fld × Int × List Fld × S × Int × Int × Bool × Int × Int × Int × Int × Bool × Int × List Fld × S × List Tld) := @instDecidableEqProd _ _ inferInstance inferInstance
instance : DecidableEq (S × Int × S × S × List Fld × S × S × S × List Fld × S × S × List Fld × Int × List Fld × S × Int × Int × Bool × Int × Int × Int × Int × Bool × Int × List Fld × S × List Tld) := @instDecidableEqProd _ _ inferInstance inferInstance
instance : DecidableEq (Int × S × Int × S × S × List Fld × S × S × S × List Fld × S × S × List Fld × Int × List Fld × S × Int × Int × Bool × Int × Int × Int × Int × Bool × Int × List Fld × S × List Tld) := @instDecidableEqProd _ _ inferInstance inferInstance
instance : Dft (Int × S × Int × S × S × List Fld × S × S × S × List Fld × S × S × List Fld × Int × List Fld × S × Int × Int × Bool × Int × Int × Int × Int × Bool × Int × List Fld × S × List Tld) := inferInstance
instance : Cz (Int × S × Int × S × S × List Fld × S × S × S × List Fld × S × S × List Fld × Int × List Fld × S × Int × Int × Bool × Int × Int × Int × Int × Bool × Int × List Fld × S × List Tld) := inferInstance
instance : Wd (Int × S × Int × S × S × List Fld × S × S × S × List Fld × S × S × List Fld × Int × List Fld × S × Int × Int × Bool × Int × Int × Int × Int × Bool × Int × List Fld × S × List Tld) := inferInstance
instance : DecidableEq (List Shd × List Gen) := @instDecidableEqProd _ _ inferInstance inferInstance
instance : Dft (List Shd × List Gen) := inferInstance
instance : Cz (List Shd × List Gen) := inferInstance
instance : Wd (List Shd × List Gen) := inferInstance
instance : DecidableEq (List Rsc × List Evt) := @instDecidableEqProd _ _ inferInstance inferInstance
instance : DecidableEq (List Flt × List Rsc × List Evt) := @instDecidableEqProd _ _ inferInstance inferInstance
instance : DecidableEq (List Gen × List Flt × List Rsc × List Evt) := @instDecidableEqProd _ _ inferInstance inferInstance
instance : Dft (List Gen × List Flt × List Rsc × List Evt) := inferInstance
instance : Cz (List Gen × List Flt × List Rsc × List Evt) := inferInstance
instance : Wd (List Gen × List Flt × List Rsc × List Evt) := inferInstance
instance : DecidableEq (List Shd × List Gen × List Flt × List Rsc × List Evt) := @instDecidableEqProd _ _ inferInstance inferInstance
instance : DecidableEq (List Cnn × List Shd × List Gen × List Flt × List Rsc × List Evt) := @instDecidableEqProd _ _ inferInstance inferInstance
instance : DecidableEq (Int × List Cnn × List Shd × List Gen × List Flt × List Rsc × List Evt) := @instDecidableEqProd _ _ inferInstance inferInstance
instance : DecidableEq (Int × Int × List Cnn × List Shd × List Gen × List Flt × List Rsc × List Evt) := @instDecidableEqProd _ _ inferInstance inferInstance
instance : Dft (Int × Int × List Cnn × List Shd × List Gen × List Flt × List Rsc × List Evt) := inferInstance
instance : Cz (Int × Int × List Cnn × List Shd × List Gen × List Flt × List Rsc × List Evt) := inferInstance
instance : Wd (Int × Int × List Cnn × List Shd × List Gen × List Flt × List Rsc × List Evt) := inferInstance
theorem wd_int {n : Int} : wd n ↔ in64 n := by
  show (Lit.int .i64 n).wf = true ↔ _
  have h0 : IntKind.i64.min = -9223372036854775808 := rfl
  have h1 : IntKind.i64.max = 9223372036854775807 := rfl
  unfold in64
  simp only [Lit.wf, Bool.and_eq_true, decide_eq_true_eq, h0, h1]
theorem wd_pair {α β : Type} [Wd α] [Wd β] {x : α × β} : wd x ↔ wd x.1 ∧ wd x.2 := Iff.rfl
theorem wf_wd {s : ByteArray} : wf .str s = wd s := by simp only [wf]; rfl
theorem wd_mem {α : Type} [Wd α] {xs : List α} (h : wd xs) {x : α} (hx : x ∈ xs) : wd x := by
  obtain ⟨i, hi⟩ := List.mem_iff_getElem?.1 hx
  exact h.2 i x hi

/-- The size of what is left of a budget; comparing; turning. -/
def szF {α : Type} [Cz α] (x : α) (k : Int) : Int := leftI (cz x) k
def pSz {α : Type} [Wd α] (x : α) (k : Int) : Prop := wd x ∧ 0 ≤ k ∧ k ≤ capI
def eqF {α : Type} [DecidableEq α] (x y : α) : Bool := decide (x = y)
def pEq {α : Type} [Wd α] (x _y : α) : Prop := wd x
theorem eqF_iff {α : Type} [DecidableEq α] {x y : α} : eqF x y = true ↔ x = y := decide_eq_true_iff
def toF {α : Type} (x : α) : α := x
def pTo {α : Type} [Cz α] (x : α) : Prop := cz x ≤ 1048576

/-! ### Texts as lists of bytes -/
def lit (l : List Nat) : ByteArray := ⟨(l.map UInt8.ofNat).toArray⟩
abbrev bs (s : ByteArray) : List UInt8 := s.data.toList
def ob (l : List UInt8) : ByteArray := ⟨l.toArray⟩
theorem bs_ob (l : List UInt8) : bs (ob l) = l := rfl
theorem ob_bs (s : ByteArray) : ob (bs s) = s := rfl
theorem bs_inj {s t : ByteArray} (h : bs s = bs t) : s = t := by rw [← ob_bs s, h, ob_bs]
theorem bs_len (s : ByteArray) : (bs s).length = s.size := by
  show s.data.toList.length = s.data.size
  exact Array.length_toList
theorem ob_size (l : List UInt8) : (ob l).size = l.length := by rw [← bs_len, bs_ob]
theorem bs_append (s t : ByteArray) : bs (s ++ t) = bs s ++ bs t := by
  show (s ++ t).data.toList = _
  rw [ByteArray.data_append, Array.toList_append]
theorem bs_extract (s : ByteArray) (i j : Nat) : bs (s.extract i j) = ((bs s).drop i).take (j - i) := by
  show (s.extract i j).data.toList = _
  rw [ByteArray.data_extract, Array.toList_extract, List.extract_eq_take_drop]
theorem bs_lit (l : List Nat) : bs (lit l) = l.map UInt8.ofNat := rfl
theorem lit_nil : lit [] = ob [] := rfl
theorem ob_append (a b : List UInt8) : ob a ++ ob b = ob (a ++ b) := bs_inj (by rw [bs_append, bs_ob, bs_ob, bs_ob])
theorem size_append (s t : ByteArray) : (s ++ t).size = s.size + t.size := by rw [← bs_len, bs_append, List.length_append, bs_len, bs_len]
theorem bt_nat (s : ByteArray) (i : Nat) (h : i < s.size) : bt s (i : Int) = (((bs s)[i]'(by rw [bs_len]; exact h)).toNat : Int) := by
  unfold bt
  simp only [Int.toNat_natCast]
  rw [dif_pos h]
  rfl
theorem bt_range (s : ByteArray) (i : Int) : 0 ≤ bt s i ∧ bt s i < 256 := by
  unfold bt
  split
  · have := (s[i.toNat]).toNat_lt
    omega
  · omega
theorem lit_ne {s : ByteArray} : s ≠ lit [] ↔ s.size ≠ 0 := by
  constructor
  · intro h h0
    apply h
    apply bs_inj
    have : (bs s).length = 0 := by rw [bs_len]; exact h0
    rw [List.eq_nil_of_length_eq_zero this]; rfl
  · intro h e
    rw [e] at h
    exact h rfl
theorem lit_eq {s : ByteArray} : s = lit [] ↔ s.size = 0 := by
  have := lit_ne (s := s)
  constructor
  · intro h; apply Classical.byContradiction; intro h'; exact this.2 h' h
  · intro h; apply Classical.byContradiction; intro h'; exact this.1 h' h

theorem wrap64 {n : Int} (h0 : -9223372036854775808 ≤ n) (h1 : n < 9223372036854775808) : IntKind.i64.wrap n = n := wrapI n h0 h1
theorem wrap8 {n : Int} (h0 : 0 ≤ n) (h1 : n < 256) : IntKind.u8.wrap n = n := by
  simp [IntKind.wrap, IntKind.bits, IntKind.signed]
  omega

/-! ### Loops -/
theorem loopI {α : Type} {Lp : α → Prop} {B : α → Prop} (hL : ∀ y, B y → Lp y) (I : α → Prop) (m : α → Nat) (step : ∀ y, I y → (∀ y', I y' → m y' < m y → Lp y') → B y) : ∀ y, I y → Lp y := by
  have key : ∀ (n : Nat) (y : α), m y = n → I y → Lp y := by
    intro n
    induction n using Nat.strongRecOn with
    | _ n ih =>
      intro y hm hI
      exact hL y (step y hI fun y' hI' hlt => ih (m y') (by omega) y' rfl hI')
  exact fun y hI => key _ y rfl hI
instance {s t : ByteArray} : Decidable (strLt s t) := inferInstanceAs (Decidable (_ = _))
/-- The place of the first element of which something is so; -1 of none. -/
def idxI {α : Type} (p : α → Bool) (xs : List α) : Int := match xs.findIdx? p with
  | some i => (i : Int)
  | none => -1
theorem idxI_neg {α : Type} {p : α → Bool} {xs : List α} : idxI p xs < 0 ↔ xs.any p = false := by
  unfold idxI
  cases h : xs.findIdx? p with
  | none =>
    rw [List.findIdx?_eq_none_iff] at h
    simp only [Int.reduceNeg, Int.reduceLT, true_iff, List.any_eq_false, Bool.not_eq_true]
    exact h
  | some i =>
    rw [List.findIdx?_eq_some_iff_getElem] at h
    obtain ⟨hi, hp, _⟩ := h
    have : xs.any p = true := List.any_eq_true.2 ⟨xs[i], List.getElem_mem hi, hp⟩
    rw [this]
    show (i : Int) < 0 ↔ _
    constructor
    · intro h; omega
    · intro h; cases h
theorem idxI_le {α : Type} {p : α → Bool} {xs : List α} : -1 ≤ idxI p xs ∧ (0 ≤ idxI p xs → idxI p xs < xs.length) := by
  unfold idxI
  cases h : xs.findIdx? p with
  | none =>
    show -1 ≤ (-1 : Int) ∧ (0 ≤ (-1 : Int) → (-1 : Int) < _)
    omega
  | some i =>
    rw [List.findIdx?_eq_some_iff_getElem] at h
    obtain ⟨hi, _⟩ := h
    show -1 ≤ (i : Int) ∧ (0 ≤ (i : Int) → (i : Int) < _)
    omega
/-- A search that has passed the first i elements. -/
theorem idxI_at {α : Type} {p : α → Bool} {xs : List α} {i : Nat} (hi : i < xs.length) (hp : p xs[i] = true) (hb : ∀ j (h : j < i), p (xs[j]'(by omega)) = false) : idxI p xs = (i : Int) := by
  have : xs.findIdx? p = some i := by
    rw [List.findIdx?_eq_some_iff_getElem]
    exact ⟨hi, hp, fun j hj => by simp [hb j hj]⟩
  unfold idxI
  rw [this]
theorem idxI_none {α : Type} {p : α → Bool} {xs : List α} (hb : ∀ j (h : j < xs.length), p xs[j] = false) : idxI p xs = -1 := by
  have : xs.findIdx? p = none := by
    rw [List.findIdx?_eq_none_iff]
    intro x hx
    obtain ⟨j, hj, rfl⟩ := List.mem_iff_getElem.1 hx
    exact hb j hj
  unfold idxI
  rw [this]
end Go.Ev
namespace Go.Ev
/-- A contract, out of a plain law whose likeness to the evaluation the kernel sees. -/
theorem ct_by {P : Program} {E : Env} {w : World} {H : Nat → List CT} {fn : Func} {c : Ct} (hE : EnvOk P E) (hC : EnvCts P E w w.heap.size) (hf : P.funcs[c.f]? = some fn) (hname : (fn.name == "runtime.NumGoroutine") = false)
    {A : Prop} (hA : A) (hev : A = ∀ x, c.pre x → evalFn E H fn c.ps c.rs c.shared x fun r => r = c.F x) : CtAt P c w := ct_ok hE hC hf hname (hev ▸ hA)
/-- .. of a function that writes what it is handed. -/
theorem ctm_by {P : Program} {E : Env} {n : Nat} {w : World} {H : Nat → List CT} {fn : Func} {c : CtM} (hE : EnvOk P E) (hC : EnvCts P E w n) (hf : P.funcs[c.f]? = some fn) (hname : (fn.name == "runtime.NumGoroutine") = false)
    {A : Prop} (hA : A) (hev : A = ∀ x, c.pre x → evalM E H fn c.ps c.rs x fun r y => r = c.F x ∧ y = c.W x) : CtMAt P c n w := ctm_ok hE hC hf hname (hev ▸ hA)
/-- A loop over 0 .. n. -/
theorem loopN {Lp B : Int → Prop} (hL : ∀ y, B y → Lp y) (n : Nat) (hn : n ≤ 9223372036854775807) (I : Nat → Prop) (step : ∀ i : Nat, i ≤ n → I i → (i < n → I (i + 1) → Lp (IntKind.i64.wrap ((i : Int) + 1))) → B (i : Int)) (h0 : I 0) : Lp 0 := by
  have key : ∀ m i : Nat, i + m = n → I i → Lp (i : Int) := by
    intro m
    induction m with
    | zero => exact fun i hi hI => hL _ (step i (by omega) hI fun h => absurd h (by omega))
    | succ m ih =>
      exact fun i hi hI => hL _ (step i (by omega) hI fun h hI' => by
        rw [wrap64 (by omega) (by omega)]
        exact ih (i + 1) (by omega) hI')
  exact key n 0 (by omega) h0
/-- .. with a state. -/
theorem loopG {σ : Type} {Lp B : σ → Prop} (hL : ∀ y, B y → Lp y) (n : Nat) (I : Nat → σ → Prop) (step : ∀ (i : Nat) (s : σ), i ≤ n → I i s → (∀ s', i < n → I (i + 1) s' → Lp s') → B s) {s0 : σ} (h0 : I 0 s0) : Lp s0 := by
  have key : ∀ (m i : Nat) (s : σ), i + m = n → I i s → Lp s := by
    intro m
    induction m with
    | zero => exact fun i s hi hI => hL _ (step i s (by omega) hI fun s' h => absurd h (by omega))
    | succ m ih => exact fun i s hi hI => hL _ (step i s (by omega) hI fun s' h hI' => ih (i + 1) s' (by omega) hI')
  exact key n 0 s0 (by omega) h0
theorem wrapS {i : Nat} (h : i ≤ 4611686018427387904) : IntKind.i64.wrap ((i : Int) + 1) = ((i + 1 : Nat) : Int) := by
  rw [wrap64 (by omega) (by omega)]; omega
theorem take_succ_app {α : Type} {l : List α} {i : Nat} (h : i < l.length) : l.take (i + 1) = l.take i ++ [l[i]] := by
  rw [List.take_add_one, List.getElem?_eq_getElem h]; rfl
theorem rx_get {α : Type} [Dft α] (xs : List α) {i : Nat} (h : i < xs.length) : rx xs (i : Int) = xs[i] := rx_nat xs i h
theorem rx_mem {α : Type} [Dft α] (xs : List α) {i : Nat} (h : i < xs.length) : rx xs (i : Int) ∈ xs := by rw [rx_nat xs i h]; exact List.getElem_mem h
theorem md_mem {α : Type} [Cz α] {xs : List α} (h : cz xs ≤ 1048576) {x : α} (hx : x ∈ xs) : cz x ≤ 1048576 := by
  have := cz_mem hx
  omega
theorem all_false {α : Type} {p : α → Bool} {l : List α} {i : Nat} (h : i < l.length) (hp : p l[i] = false) : l.all p = false := by
  rw [List.all_eq_false]
  exact ⟨l[i], List.getElem_mem h, by simp [hp]⟩
theorem any_true {α : Type} {p : α → Bool} {l : List α} {i : Nat} (h : i < l.length) (hp : p l[i] = true) : l.any p = true := List.any_eq_true.2 ⟨l[i], List.getElem_mem h, hp⟩
end Go.Ev
end

section
/- The plain library: what the program's functions compute, as Lean functions; and what they ask of their arguments. -/
set_option linter.unusedVariables false
namespace Go.Ev
/-- A text of moderate size. -/
def sm (s : S) : Prop := s.size ≤ 1073741824
/-- Data of moderate size. -/
def md {α : Type} [Cz α] (x : α) : Prop := cz x ≤ 1048576

/-! ### The library -/
def joinL (sep : S) : List S → S
  | [] => lit []
  | [x] => x
  | x :: y :: r => x ++ sep ++ joinL sep (y :: r)
def mJoin (xs : List S) (sep : S) : S := joinL sep xs
def pJoin (xs : List S) (sep : S) : Prop := xs.length ≤ 1073741824 ∧ sumN (xs.map fun x => x.size) ≤ 1073741824 ∧ sep.size ≤ 16
def mTrimL (s cs : S) : S := ob (Lib.trimS (bs s) (bs cs))
def pTrimL (s cs : S) : Prop := sm s ∧ cs = lit [32, 9]
def mCut (s sep : S) : S × S × Bool := (ob (Lib.cut (bs s) (bs sep)).1, ob (Lib.cut (bs s) (bs sep)).2.1, (Lib.cut (bs s) (bs sep)).2.2)
def pCut (s sep : S) : Prop := sm s
def mIndexByte (s : S) (c : Int) : Int := Lib.indexByte (bs s) c.toNat.toUInt8
def pIndexByte (s : S) (c : Int) : Prop := True
def mIndex_string (xs : List S) (x : S) : Int := idxI (fun y => decide (x = y)) xs
def pIndex_string (xs : List S) (x : S) : Prop := xs.length ≤ maxLen
def mContains_string (xs : List S) (x : S) : Bool := xs.any fun y => decide (x = y)
def pContains_string (xs : List S) (x : S) : Prop := xs.length ≤ maxLen
def mEqual_Field (a b : List Fld) : Bool := decide (a = b)
def pEqual_Field (a b : List Fld) : Prop := a.length ≤ maxLen

/-! ### Numbers -/
def mIn (n lo hi : Int) : Bool := decide (lo ≤ n) && decide (n ≤ hi)
def pIn (n lo hi : Int) : Prop := True

def mItoa (n : Int) : S := ob (Lib.itoa n)
def pItoa (n : Int) : Prop := in64 n
def mDec (n : Int) : S := mItoa n
def pDec (n : Int) : Prop := in64 n
open Classical in
/-- The number of at most nine digits that a text shows. -/
noncomputable def mReadDec (s : S) : Int × Bool := if h : ∃ n : Int, -999999999 ≤ n ∧ n ≤ 999999999 ∧ mDec n = s then (Classical.choose h, true) else (0, false)
def pReadDec (s : S) : Prop := sm s
def mTagOf (n : Int) : S := if mIn n 1 100000 = true then (lit [34, 118] ++ mDec n) ++ lit [34] else lit []
def pTagOf (n : Int) : Prop := in64 n

/-! ### Signs and texts -/
def mIsLetterOrDigit (b : Int) : Bool := (decide (97 ≤ b) && decide (b ≤ 122)) || (decide (65 ≤ b) && decide (b ≤ 90)) || (decide (48 ≤ b) && decide (b ≤ 57))
def pIsLetterOrDigit (b : Int) : Prop := True
def tokenSigns : List Int := [33, 35, 36, 37, 38, 39, 42, 43, 45, 46, 94, 95, 96, 124, 126]
def mToken (b : Int) : Bool := mIsLetterOrDigit b || tokenSigns.any fun c => decide (b = c)
def pToken (b : Int) : Prop := True
def ints (s : S) : List Int := (bs s).map fun b => (b.toNat : Int)
def mIsTokenText (s : S) : Bool := (ints s).all mToken && decide (s.size ≠ 0)
def pIsTokenText (s : S) : Prop := sm s
def lowB (b : UInt8) : UInt8 := if 65 ≤ b.toNat ∧ b.toNat ≤ 90 then b + 32 else b
def mLower (s : S) : S := ob ((bs s).map lowB)
def pLower (s : S) : Prop := sm s
def mBlank (b : Int) : Bool := decide (b = 32) || decide (b = 9)
def pBlank (b : Int) : Prop := True
def mTrim (s : S) : S := ob (Lib.trimS (bs s) [32, 9])
def pTrim (s : S) : Prop := sm s
def mIsValueText (s : S) : Bool := (ints s).all (fun b => decide (b = 9) || (decide (32 ≤ b) && decide (b ≠ 127))) && decide (mTrim s = s)
def pIsValueText (s : S) : Prop := sm s
/-- The parts of a text between commas that stand in no quotes. -/
def partsL : Bool → List UInt8 → List UInt8 → List (List UInt8)
  | _, cur, [] => [cur]
  | true, cur, [b] => [cur ++ [b]]
  | true, cur, b :: c :: r => if b = 34 then partsL false (cur ++ [b]) (c :: r) else if b = 92 then partsL true (cur ++ [b, c]) r else partsL true (cur ++ [b]) (c :: r)
  | false, cur, b :: r => if b = 34 then partsL true (cur ++ [b]) r else if b = 44 then cur :: partsL false [] r else partsL false (cur ++ [b]) r
/-- .. trimmed; those that are not empty. -/
def trimmed (l : List (List UInt8)) : List S := (l.map fun p => mTrim (ob p)).filter fun s => decide (s ≠ lit [])
def mSplitList (s : S) : List S := trimmed (partsL false [] (bs s))
def pSplitList (s : S) : Prop := sm s
/-- Where the commas are, from a place on. -/
def commasL : Bool → Int → List UInt8 → List Int
  | _, _, [] => []
  | true, _, [_] => []
  | true, i, b :: c :: r => if b = 34 then commasL false (i + 1) (c :: r) else if b = 92 then commasL true (i + 2) r else commasL true (i + 1) (c :: r)
  | false, i, b :: r => if b = 34 then commasL true (i + 1) r else if b = 44 then i :: commasL false (i + 1) r else commasL false (i + 1) r
def mCommas (s : S) : List Int := commasL false 0 (bs s)
def pCommas (s : S) : Prop := sm s

/-! ### Fields -/
def valuesOf (l : List Fld) (n : S) : List S := (l.filter fun f => decide (f.1 = n)).map fun f => f.2
def mFieldGet (l : List Fld) (n : S) : S × Bool := (mJoin (valuesOf l n) (lit [44, 32]), decide (0 < (valuesOf l n).length))
def pFieldGet (l : List Fld) (n : S) : Prop := md l
def mHasField (l : List Fld) (n : S) : Bool := (mFieldGet l n).2
def pHasField (l : List Fld) (n : S) : Prop := md l
def mFieldOk (f : Fld) : Bool := mIsTokenText f.1 && decide ((f.1.size : Int) ≤ 24) && decide (mLower f.1 = f.1) && mIsValueText f.2 && decide ((f.2.size : Int) ≤ 60)
def pFieldOk (f : Fld) : Prop := sm f.1 ∧ sm f.2
def mFieldsOk_1 (f : Fld) : Bool := !mFieldOk f
def pFieldsOk_1 (f : Fld) : Prop := pFieldOk f
def mIndexFunc_FieldsOk_1 (l : List Fld) (_ : Unit) : Int := idxI mFieldsOk_1 l
def pIndexFunc_FieldsOk_1 (l : List Fld) (_ : Unit) : Prop := md l
def mContainsFunc_FieldsOk_1 (l : List Fld) (_ : Unit) : Bool := l.any mFieldsOk_1
def pContainsFunc_FieldsOk_1 (l : List Fld) (_ : Unit) : Prop := md l
def mFieldsOk (l : List Fld) : Bool := l.all mFieldOk && decide ((l.length : Int) ≤ 12)
def pFieldsOk (l : List Fld) : Prop := md l
def mSameFields (a b : List Fld) : Bool := decide (a = b)
def pSameFields (a b : List Fld) : Prop := a.length ≤ maxLen

open Classical in
/-- The version that a tag says; 0 where it says none. -/
noncomputable def mVersionIn (r : Rsp) : Int := if h : ∃ n : Int, 1 ≤ n ∧ n ≤ 100000 ∧ mTagOf n = (mFieldGet r.2.1 (lit [101, 116, 97, 103])).1 then Classical.choose h else 0
def pVersionIn (r : Rsp) : Prop := md r.2.1

/-! ### Messages -/
def nameCL : S := lit [99, 111, 110, 116, 101, 110, 116, 45, 108, 101, 110, 103, 116, 104]
def nameTE : S := lit [116, 114, 97, 110, 115, 102, 101, 114, 45, 101, 110, 99, 111, 100, 105, 110, 103]
def mBodyFields (l : List Fld) : Bool := mHasField l nameCL || mHasField l nameTE
def pBodyFields (l : List Fld) : Prop := md l
def mOwnFields (l : List Fld) : Bool := mFieldsOk l && decide ((l.length : Int) < 12) && !mBodyFields l
def pOwnFields (l : List Fld) : Prop := md l
def mUriOk (s : S) : Bool := (ints s).all (fun b => decide (33 ≤ b) && decide (b ≤ 126)) && mIn (s.size : Int) 1 20 && decide (bt s 0 = 47)
def pUriOk (s : S) : Prop := sm s
def mBodiless (n : Int) : Bool := decide (n = 204) || decide (n = 304)
def pBodiless (n : Int) : Prop := True
def mResponseOk (r : Rsp) : Bool := mIn r.1 200 599 && mOwnFields r.2.1 && decide ((r.2.2.size : Int) ≤ 60) && (decide (r.2.2 = lit []) || !mBodiless r.1)
def pResponseOk (r : Rsp) : Prop := md r.2.1

/-! ### Directives -/
def mL7Unquote (s : S) : S := if 2 ≤ (s.size : Int) ∧ bt s 0 = 34 ∧ bt s ((s.size : Int) - 1) = 34 then s.extract 1 (s.size - 1) else s
def pL7Unquote (s : S) : Prop := sm s
def dirOf (p : S) : Option Fld := if mIsTokenText (mCut p (lit [61])).1 = true then some (mLower (mCut p (lit [61])).1, mL7Unquote (mCut p (lit [61])).2.1) else none
def nameCC : S := lit [99, 97, 99, 104, 101, 45, 99, 111, 110, 116, 114, 111, 108]
def mDirectives (l : List Fld) : List Fld := (mSplitList (mFieldGet l nameCC).1).filterMap dirOf
def pDirectives (l : List Fld) : Prop := md l
def mCcHas_1 (d : Fld) (n : S) : Bool := decide (d.1 = n)
def pCcHas_1 (d : Fld) (n : S) : Prop := True
def mIndexFunc_CcHas_1 (l : List Fld) (n : S) : Int := idxI (fun d => mCcHas_1 d n) l
def pIndexFunc_CcHas_1 (l : List Fld) (n : S) : Prop := l.length ≤ maxLen
def mContainsFunc_CcHas_1 (l : List Fld) (n : S) : Bool := l.any fun d => mCcHas_1 d n
def pContainsFunc_CcHas_1 (l : List Fld) (n : S) : Prop := l.length ≤ maxLen
def mCcHas (l : List Fld) (n : S) : Bool := (mDirectives l).any fun d => mCcHas_1 d n
def pCcHas (l : List Fld) (n : S) : Prop := md l
def mOnlyStored (q : Req) : Bool := mCcHas q.2.2.1 (lit [111, 110, 108, 121, 45, 105, 102, 45, 99, 97, 99, 104, 101, 100])
def pOnlyStored (q : Req) : Prop := md q

/-! ### What may be stored -/
def mL4Has (l : List Int) (n : Int) : Bool := l.any fun x => decide (x = n)
def pL4Has (l : List Int) (n : Int) : Prop := l.length ≤ maxLen
def mHeuristic (n : Int) : Bool := mL4Has [200, 203, 204, 300, 301, 404, 410] n
def pHeuristic (n : Int) : Prop := True
def mStorable_1 (n : S) (r : Rsp) : Bool := mCcHas r.2.1 n
def pStorable_1 (n : S) (r : Rsp) : Prop := md r.2.1
def sNoStore : S := lit [110, 111, 45, 115, 116, 111, 114, 101]
def sPrivate : S := lit [112, 114, 105, 118, 97, 116, 101]
def sPublic : S := lit [112, 117, 98, 108, 105, 99]
def sMaxAge : S := lit [109, 97, 120, 45, 97, 103, 101]
def sSMaxAge : S := lit [115, 45, 109, 97, 120, 97, 103, 101]
def sMust : S := lit [109, 117, 115, 116, 45, 114, 101, 118, 97, 108, 105, 100, 97, 116, 101]
def sVary : S := lit [118, 97, 114, 121]
def sAuth : S := lit [97, 117, 116, 104, 111, 114, 105, 122, 97, 116, 105, 111, 110]
def sExpires : S := lit [101, 120, 112, 105, 114, 101, 115]
def sGET : S := lit [71, 69, 84]
def mStorable (q : Req) (r : Rsp) : Bool :=
  decide (q.1 = sGET) && mResponseOk r && !decide (r.1 = 304) && !mCcHas q.2.2.1 sNoStore && !mCcHas r.2.1 sNoStore && !mCcHas r.2.1 sPrivate &&
  !mContains_string (mSplitList (mFieldGet r.2.1 sVary).1) (lit [42]) &&
  !(mHasField q.2.2.1 sAuth && !mCcHas r.2.1 sPublic && !mCcHas r.2.1 sSMaxAge && !mCcHas r.2.1 sMust) &&
  (mCcHas r.2.1 sPublic || mCcHas r.2.1 sMaxAge || mCcHas r.2.1 sSMaxAge || mHasField r.2.1 sExpires || mHeuristic r.1)
def pStorable (q : Req) (r : Rsp) : Prop := md q ∧ md r

/-! ### What a response hangs on -/
def mNormal (s : S) : S := mJoin (mSplitList s) (lit [44, 32])
def pNormal (s : S) : Prop := s.size ≤ 4194304
/-- Each once, at its first place. -/
def onceL : List S → List S → List S
  | out, [] => out
  | out, x :: r => onceL (if out.any (fun y => decide (x = y)) then out else out ++ [x]) r
def mVaryNames (r : Rsp) : List S := onceL [] ((mSplitList (mFieldGet r.2.1 sVary).1).map mLower)
def pVaryNames (r : Rsp) : Prop := md r.2.1
def pickOf (q : Req) (n : S) : Option Fld := if (mFieldGet q.2.2.1 n).2 = true then some (n, mNormal (mFieldGet q.2.2.1 n).1) else none
def mPicked (q : Req) (r : Rsp) : List Fld := (mVaryNames r).filterMap (pickOf q)
def pPicked (q : Req) (r : Rsp) : Prop := md q.2.2.1 ∧ md r.2.1
def mVaryFits (q : Req) (r : Rsp) (p : List Fld) : Bool := decide (mPicked q r = p)
def pVaryFits (q : Req) (r : Rsp) (p : List Fld) : Prop := md q.2.2.1 ∧ md r.2.1

/-! ### Shards -/
def mStoredOk (x : Sto) : Bool := mUriOk x.1 && mResponseOk (x.2.2.1, x.2.2.2.1, x.2.2.2.2.1) && mIn x.2.2.2.2.2.1 0 2000000000 && mIn x.2.2.2.2.2.2 x.2.2.2.2.2.1 2000000000 && decide ((x.2.1.length : Int) ≤ 12)
def pStoredOk (x : Sto) : Prop := md x
def mStandAlike (a b : Sto) : Bool := decide (a.1 = b.1) && decide (a.2.1 = b.2.1)
def pStandAlike (a b : Sto) : Prop := a.2.1.length ≤ maxLen
def mShardSizes (a b : Int) : Bool := mIn a 1 8 && mIn b 0 500
def pShardSizes (a b : Int) : Prop := True
def stoOf (x : Slt) : Sto := (x.1, x.2.1, x.2.2.1, x.2.2.2.1, x.2.2.2.2.1, x.2.2.2.2.2.1, x.2.2.2.2.2.2.1)
def mBodies (r : List Slt) : Int := (sumN (r.map fun x => x.2.2.2.2.1.size) : Nat)
def pBodies (r : List Slt) : Prop := md r
def mFilledS (s : Shd) : Int := mBodies s.2.2.1
def pFilledS (s : Shd) : Prop := md s
def mShardOk_1 (y x : Slt) : Bool := mStandAlike (stoOf x) (stoOf y)
def pShardOk_1 (y x : Slt) : Prop := x.2.1.length ≤ maxLen
def mIndexFunc_ShardOk_1 (l : List Slt) (x : Slt) : Int := idxI (fun y => mShardOk_1 y x) l
def pIndexFunc_ShardOk_1 (l : List Slt) (x : Slt) : Prop := l.length ≤ maxLen ∧ x.2.1.length ≤ maxLen
def mContainsFunc_ShardOk_1 (l : List Slt) (x : Slt) : Bool := l.any fun y => mShardOk_1 y x
def pContainsFunc_ShardOk_1 (l : List Slt) (x : Slt) : Prop := l.length ≤ maxLen ∧ x.2.1.length ≤ maxLen
/-- Each one is fine, and unlike those ahead of it. -/
def ringFine (r : List Slt) : Prop := ∀ i, i < r.length → mStoredOk (stoOf (rx r (i : Int))) = true ∧ ∀ j, j < i → mStandAlike (stoOf (rx r (j : Int))) (stoOf (rx r (i : Int))) = false
open Classical in
noncomputable def mShardOk (s : Shd) : Bool := mShardSizes s.1 s.2.1 && decide ((s.2.2.1.length : Int) ≤ s.1) && (decide (s.2.2.2 = 0) || mIn s.2.2.2 0 ((s.2.2.1.length : Int) - 1)) && decide (ringFine s.2.2.1) && decide (mBodies s.2.2.1 ≤ s.2.1)
def pShardOk (s : Shd) : Prop := md s
noncomputable def mFilled (s : Shd) : Int := if mShardOk s = true then mBodies s.2.2.1 else 0
def pFilled (s : Shd) : Prop := md s

/-! ### The origin -/
def resOk (x : Rsc) : Bool := mUriOk x.1 && decide ((x.2.1.size : Int) ≤ 60) && mIn x.2.2.1 1 100000 && mIn x.2.2.2.1 0 2000000000 && decide ((x.2.2.2.2.2.2.length : Int) ≤ 6) && mOwnFields x.2.2.2.2.2.2
/-- Is the resource at a place fine, and its address behind the one ahead of it? -/
def orgAt (o : List Rsc) (i : Nat) : Prop := resOk (rx o (i : Int)) = true ∧ (i = 0 ∨ strLt (rx o ((i - 1 : Nat) : Int)).1 (rx o (i : Int)).1)
open Classical in
noncomputable def mOriginOk (o : List Rsc) : Bool := decide ((∀ i, i < o.length → orgAt o i) ∧ o.length ≤ 8)
def pOriginOk (o : List Rsc) : Prop := md o

/-! ### Flights -/
def sNone : S := lit [105, 102, 45, 110, 111, 110, 101, 45, 109, 97, 116, 99, 104]
def sSince : S := lit [105, 102, 45, 109, 111, 100, 105, 102, 105, 101, 100, 45, 115, 105, 110, 99, 101]
def sNoCache : S := lit [110, 111, 45, 99, 97, 99, 104, 101]
def mItsOwn (q : Req) : Bool := decide (q.1 ≠ sGET) || mHasField q.2.2.1 sAuth || mHasField q.2.2.1 sNone || mHasField q.2.2.1 sSince || mCcHas q.2.2.1 sNoStore || mCcHas q.2.2.1 sNoCache
def pItsOwn (q : Req) : Prop := md q.2.2.1
def fltReq (f : Flt) : Req := (f.2.2.2.2.2.1, f.2.2.2.2.2.2.1, f.2.2.2.2.2.2.2.1, f.2.2.2.2.2.2.2.2.1)
def fltRsp (f : Flt) : Rsp := (f.2.2.2.2.2.2.2.2.2.1, f.2.2.2.2.2.2.2.2.2.2.1, f.2.2.2.2.2.2.2.2.2.2.2.1)
def mMayShare (q : Req) (f : Flt) (now : Int) : Bool := !f.2.1 && f.2.2.2.1 && f.2.2.2.2.1 && mVaryFits q (fltRsp f) (mPicked (fltReq f) (fltRsp f)) && !mItsOwn q
def pMayShare (q : Req) (f : Flt) (now : Int) : Prop := md q ∧ md f

/-! ### Worlds -/
def mBlocked (w : Wld) (i : Int) : Bool :=
  !mIn i 0 ((w.2.2.1.length : Int) - 1) || decide ((rx w.2.2.1 i).1 = 7) ||
    (decide ((rx w.2.2.1 i).1 = 5) && mIn (rx w.2.2.1 i).2.2.2.2.2.2.2.2.2.2.2.2.2.2.2.2.2.2.2.1 0 ((w.2.2.2.2.2.1.length : Int) - 1) &&
      (rx w.2.2.2.2.2.1 (rx w.2.2.1 i).2.2.2.2.2.2.2.2.2.2.2.2.2.2.2.2.2.2.2.1).2.1)
def pBlocked (w : Wld) (i : Int) : Prop := md w
def mAllDone_1 (c : Cnn) : Bool := decide (c.1 ≠ 7)
def pAllDone_1 (c : Cnn) : Prop := True
def mIndexFunc_AllDone_1 (l : List Cnn) (_ : Unit) : Int := idxI mAllDone_1 l
def pIndexFunc_AllDone_1 (l : List Cnn) (_ : Unit) : Prop := l.length ≤ maxLen
def mContainsFunc_AllDone_1 (l : List Cnn) (_ : Unit) : Bool := l.any mAllDone_1
def pContainsFunc_AllDone_1 (l : List Cnn) (_ : Unit) : Prop := l.length ≤ maxLen
def mAllDone (w : Wld) : Bool := !w.2.2.1.any mAllDone_1
def pAllDone (w : Wld) : Prop := md w
end Go.Ev
end

section
/- The plain library: what the laws' marks are. -/
set_option linter.unusedVariables false
namespace Go.Ev
def mMarkText (k : Int) : S := if k ≤ 0 then lit [109, 48] else lit [109] ++ mDec k
def pMarkText (k : Int) : Prop := in64 k
def markFld : List Fld → Int → List Fld
  | [], _ => []
  | _ :: r, k => (mMarkText k, mMarkText (k + 1)) :: markFld r (k + 2)
def heldFld : List Fld → Int → Int
  | [], k => k
  | f :: r, k => if f.1 ≠ mMarkText k then -1 else if f.2 ≠ mMarkText (k + 1) then -1 else heldFld r (k + 2)
/-- A mark's begin, and how many there are. -/
def pMk (n : Nat) (k : Int) : Prop := 0 ≤ k ∧ k ≤ 1099511627776 ∧ n ≤ 1099511627776
def mMarkFieldS (l : List Fld) (k : Int) : Int := k + 2 * l.length
def wMarkFieldS (l : List Fld) (k : Int) : List Fld × Int := (markFld l k, k)
def pMarkFieldS (l : List Fld) (k : Int) : Prop := pMk l.length k
def mHeldFieldS (l : List Fld) (k : Int) : Int := heldFld l k
def pHeldFieldS (l : List Fld) (k : Int) : Prop := pMk l.length k
def mMarkRequest (q : Req) (k : Int) : Int := mMarkFieldS q.2.2.1 k
def wMarkRequest (q : Req) (k : Int) : Req × Int := ((q.1, q.2.1, markFld q.2.2.1 k, q.2.2.2), k)
def pMarkRequest (q : Req) (k : Int) : Prop := pMarkFieldS q.2.2.1 k
def mMarkResponse (r : Rsp) (k : Int) : Int := mMarkFieldS r.2.1 k
def wMarkResponse (r : Rsp) (k : Int) : Rsp × Int := ((r.1, markFld r.2.1 k, r.2.2), k)
def pMarkResponse (r : Rsp) (k : Int) : Prop := pMarkFieldS r.2.1 k
theorem markFld_length : ∀ (l : List Fld) (k : Int), (markFld l k).length = l.length
  | [], _ => rfl
  | _ :: r, k => by simp [markFld, markFld_length r]
theorem held_mark : ∀ (l : List Fld) (k : Int), heldFld (markFld l k) k = k + 2 * l.length
  | [], k => by simp [markFld, heldFld]
  | _ :: r, k => by
    simp only [markFld, heldFld, ne_eq, not_true_eq_false, if_false, held_mark r, List.length_cons]
    omega
theorem markFld_get : ∀ (l : List Fld) (k : Int) (i : Nat) (h : i < l.length), (markFld l k)[i]'(by rw [markFld_length]; exact h) = (mMarkText (k + 2 * i), mMarkText (k + 2 * i + 1))
  | f :: r, k, 0, h => by simp [markFld]
  | f :: r, k, i + 1, h => by
    simp only [markFld, List.getElem_cons_succ]
    rw [markFld_get r (k + 2) i (by simpa using h)]
    rw [show k + 2 + 2 * (i : Int) = k + 2 * ((i + 1 : Nat) : Int) by omega]
end Go.Ev
end

section
/- The plain library: marks of texts in a row, FieldSet and WithAge. -/
set_option linter.unusedVariables false
namespace Go.Ev
def markTxt : List S → Int → List S
  | [], _ => []
  | _ :: r, k => mMarkText k :: markTxt r (k + 1)
def heldTxt : List S → Int → Int
  | [], k => k
  | f :: r, k => if f ≠ mMarkText k then -1 else heldTxt r (k + 1)
def mMarkStringS (l : List S) (k : Int) : Int := k + l.length
def wMarkStringS (l : List S) (k : Int) : List S × Int := (markTxt l k, k)
def pMarkStringS (l : List S) (k : Int) : Prop := pMk l.length k
def mHeldStringS (l : List S) (k : Int) : Int := heldTxt l k
def pHeldStringS (l : List S) (k : Int) : Prop := pMk l.length k
def mHeldResponse (r : Rsp) (k : Int) : Int := if mHeldFieldS r.2.1 k < 0 then -1 else mHeldFieldS r.2.1 k
def pHeldResponse (r : Rsp) (k : Int) : Prop := pHeldFieldS r.2.1 k
theorem markTxt_length : ∀ (l : List S) (k : Int), (markTxt l k).length = l.length
  | [], _ => rfl
  | _ :: r, k => by simp [markTxt, markTxt_length r]
theorem held_markTxt : ∀ (l : List S) (k : Int), heldTxt (markTxt l k) k = k + l.length
  | [], k => by simp [markTxt, heldTxt]
  | _ :: r, k => by
    simp only [markTxt, heldTxt, ne_eq, not_true_eq_false, if_false, held_markTxt r, List.length_cons]
    omega
theorem markTxt_get : ∀ (l : List S) (k : Int) (i : Nat) (h : i < l.length), (markTxt l k)[i]'(by rw [markTxt_length]; exact h) = mMarkText (k + i)
  | f :: r, k, 0, h => by simp [markTxt]
  | f :: r, k, i + 1, h => by
    simp only [markTxt, List.getElem_cons_succ]
    rw [markTxt_get r (k + 1) i (by simpa using h)]
    rw [show k + 1 + (i : Int) = k + ((i + 1 : Nat) : Int) by omega]
/-- A field set: the first of that name gets the value, the others of that name go; one is put behind where there was none. -/
def fset : List Fld → S → S → Bool → List Fld
  | [], n, v, put => if put = true then [] else [(n, v)]
  | f :: r, n, v, put => if f.1 ≠ n then f :: fset r n v put else if put = true then fset r n v true else (n, v) :: fset r n v true
def mFieldSet (l : List Fld) (n v : S) : List Fld := fset l n v false
def pFieldSet (l : List Fld) (n v : S) : Prop := l.length ≤ 1099511627776
theorem fset_length : ∀ (l : List Fld) (n v : S) (b : Bool), (fset l n v b).length ≤ l.length + 1
  | [], n, v, b => by unfold fset; split <;> simp
  | f :: r, n, v, b => by
    have h1 := fset_length r n v b
    have h2 := fset_length r n v true
    unfold fset
    split
    · simp only [List.length_cons]; omega
    · split
      · simp only [List.length_cons]; omega
      · simp only [List.length_cons]; omega
theorem fset_mem : ∀ (l : List Fld) (n v : S) (b : Bool) (x : Fld), x ∈ fset l n v b → x ∈ l ∨ x = (n, v)
  | [], n, v, b, x, h => by
    unfold fset at h
    split at h
    · cases h
    · exact .inr (by simpa using h)
  | f :: r, n, v, b, x, h => by
    unfold fset at h
    split at h
    · rcases List.mem_cons.1 h with h | h
      · exact .inl (by rw [h]; exact List.mem_cons_self)
      · exact (fset_mem r n v b x h).imp (fun h => List.mem_cons_of_mem _ h) id
    · split at h
      · exact (fset_mem r n v true x h).imp (fun h => List.mem_cons_of_mem _ h) id
      · rcases List.mem_cons.1 h with h | h
        · exact .inr h
        · exact (fset_mem r n v true x h).imp (fun h => List.mem_cons_of_mem _ h) id
def mWithin (a : Int) : Int := if 0 < (if 2147483648 < a then 2147483648 else a) then (if 2147483648 < a then 2147483648 else a) else 0
def pWithin (a : Int) : Prop := True
def sAge : S := lit [97, 103, 101]
def mWithAge (r : Rsp) (a : Int) : Rsp := (r.1, mFieldSet r.2.1 sAge (mDec (mWithin a)), r.2.2)
def pWithAge (r : Rsp) (a : Int) : Prop := md r.2.1
theorem within_in64 (a : Int) : in64 (mWithin a) := by
  unfold mWithin
  constructor <;> split <;> split <;> omega
end Go.Ev
end

section
/- What the program's functions come to, each by itself: printed by a program of this session's own (EwShow) out of the small machine. -/
set_option linter.unusedVariables false
namespace Go.Ev

def s_impl_FieldSet (a0 : (List Fld)) (a1 : S) (a2 : S) (Q : ((List Fld) → Prop)) : Prop :=
  (∀ L0 : (((List Fld) × (Bool × Int)) → Prop),
    ((
        (∀ y1 : ((List Fld) × (Bool × Int)),
          ((
              (y1.2.2 < (a0.length : Int) →
                0 ≤ y1.2.2 ∧
                y1.2.2 < (a0.length : Int) ∧
                ((rx a0 y1.2.2).1 ≠ a1 →
                  (y1.1.length + [(rx a0 y1.2.2)].length) * 32 ≤ 140737488355328 ∧
                  (L0 ((y1.1 ++ [(rx a0 y1.2.2)]), y1.2.1, (IntKind.i64.wrap (y1.2.2 + 1))))) ∧
                (¬ ((rx a0 y1.2.2).1 ≠ a1) →
                  (¬ (y1.2.1 = true) →
                    (y1.1.length + [(a1, a2)].length) * 32 ≤ 140737488355328 ∧
                    (L0 ((y1.1 ++ [(a1, a2)]), true, (IntKind.i64.wrap (y1.2.2 + 1))))) ∧
                  (¬ (¬ (y1.2.1 = true)) →
                    (L0 (y1.1, y1.2.1, (IntKind.i64.wrap (y1.2.2 + 1))))))) ∧
              (¬ (y1.2.2 < (a0.length : Int)) →
                (¬ (y1.2.1 = true) →
                  (y1.1.length + [(a1, a2)].length) * 32 ≤ 140737488355328 ∧
                  (Q (y1.1 ++ [(a1, a2)]))) ∧
                (¬ (¬ (y1.2.1 = true)) →
                  (Q y1.1)))
            ) →
            (L0 y1)))
      ) →
      (L0 ([], false, 0))))

def s_impl_WithAge (a0 : Rsp) (a1 : Int) (Q : (Rsp → Prop)) : Prop :=
  pWithin a1 ∧
  pDec (mWithin a1) ∧
  pFieldSet a0.2.1 (lit [97, 103, 101]) (mDec (mWithin a1)) ∧
  (Q (a0.1, (mFieldSet a0.2.1 (lit [97, 103, 101]) (mDec (mWithin a1))), a0.2.2))

def s_impl_within (a0 : Int) (Q : (Int → Prop)) : Prop :=
  (Q (if 0 < (if 2147483648 < a0 then 2147483648 else a0) then (if 2147483648 < a0 then 2147483648 else a0) else 0))

def s_laws_FnExactVaryNames (a0 : Rsp) (Q : (Bool → Prop)) : Prop :=
  pSz a0 1048576 ∧
  ((szF a0 1048576) < 0 →
    (Q true)) ∧
  (¬ ((szF a0 1048576) < 0) →
    pTo a0 ∧
    pVaryNames (toF a0) ∧
    pTo a0 ∧
    pVaryNames (toF a0) ∧
    pEq (mVaryNames (toF a0)) (mVaryNames (toF a0)) ∧
    (¬ ((eqF (mVaryNames (toF a0)) (mVaryNames (toF a0))) = true) →
      (Q false)) ∧
    (¬ (¬ ((eqF (mVaryNames (toF a0)) (mVaryNames (toF a0))) = true)) →
      pTo a0 ∧
      pEq (toF a0) (toF a0) ∧
      (¬ ((eqF (toF a0) (toF a0)) = true) →
        (Q false)) ∧
      (¬ (¬ ((eqF (toF a0) (toF a0)) = true)) →
        pMarkResponse (toF a0) 1 ∧
        ((mMarkResponse (toF a0) 1) < 0 →
          (Q false)) ∧
        (¬ ((mMarkResponse (toF a0) 1) < 0) →
          pEq (mVaryNames (toF a0)) (mVaryNames (toF a0)) ∧
          (¬ ((eqF (mVaryNames (toF a0)) (mVaryNames (toF a0))) = true) →
            (Q false)) ∧
          (¬ (¬ ((eqF (mVaryNames (toF a0)) (mVaryNames (toF a0))) = true)) →
            pMarkStringS (mVaryNames (toF a0)) 1 ∧
            pHeldStringS (wMarkStringS (mVaryNames (toF a0)) 1).1 1 ∧
            ((mHeldStringS (wMarkStringS (mVaryNames (toF a0)) 1).1 1) < 0 →
              (Q false)) ∧
            (¬ ((mHeldStringS (wMarkStringS (mVaryNames (toF a0)) 1).1 1) < 0) →
              ((mHeldStringS (wMarkStringS (mVaryNames (toF a0)) 1).1 1) ≠ (mMarkStringS (mVaryNames (toF a0)) 1) →
                (Q false)) ∧
              (¬ ((mHeldStringS (wMarkStringS (mVaryNames (toF a0)) 1).1 1) ≠ (mMarkStringS (mVaryNames (toF a0)) 1)) →
                pTo a0 ∧
                pVaryNames (toF a0) ∧
                pEq (mVaryNames (toF a0)) (mVaryNames (toF a0)) ∧
                (¬ ((eqF (mVaryNames (toF a0)) (mVaryNames (toF a0))) = true) →
                  (Q false)) ∧
                (¬ (¬ ((eqF (mVaryNames (toF a0)) (mVaryNames (toF a0))) = true)) →
                  pHeldStringS (wMarkStringS (mVaryNames (toF a0)) 1).1 1 ∧
                  ((mHeldStringS (wMarkStringS (mVaryNames (toF a0)) 1).1 1) < 0 →
                    (Q false)) ∧
                  (¬ ((mHeldStringS (wMarkStringS (mVaryNames (toF a0)) 1).1 1) < 0) →
                    ((mHeldStringS (wMarkStringS (mVaryNames (toF a0)) 1).1 1) ≠ (mMarkStringS (mVaryNames (toF a0)) 1) →
                      (Q false)) ∧
                    (¬ ((mHeldStringS (wMarkStringS (mVaryNames (toF a0)) 1).1 1) ≠ (mMarkStringS (mVaryNames (toF a0)) 1)) →
                      (Q true)))))))))))

def s_laws_FnExactWithAge (a0 : Rsp) (a1 : Int) (Q : (Bool → Prop)) : Prop :=
  pSz a0 1048576 ∧
  ((szF a0 1048576) < 0 →
    (Q true)) ∧
  (¬ ((szF a0 1048576) < 0) →
    pTo a0 ∧
    pWithAge (toF a0) a1 ∧
    pTo a0 ∧
    pWithAge (toF a0) a1 ∧
    pEq (mWithAge (toF a0) a1) (mWithAge (toF a0) a1) ∧
    (¬ ((eqF (mWithAge (toF a0) a1) (mWithAge (toF a0) a1)) = true) →
      (Q false)) ∧
    (¬ (¬ ((eqF (mWithAge (toF a0) a1) (mWithAge (toF a0) a1)) = true)) →
      pTo a0 ∧
      pEq (toF a0) (toF a0) ∧
      (¬ ((eqF (toF a0) (toF a0)) = true) →
        (Q false)) ∧
      (¬ (¬ ((eqF (toF a0) (toF a0)) = true)) →
        pMarkResponse (toF a0) 1 ∧
        ((mMarkResponse (toF a0) 1) < 0 →
          (Q false)) ∧
        (¬ ((mMarkResponse (toF a0) 1) < 0) →
          pEq (mWithAge (toF a0) a1) (mWithAge (toF a0) a1) ∧
          (¬ ((eqF (mWithAge (toF a0) a1) (mWithAge (toF a0) a1)) = true) →
            (Q false)) ∧
          (¬ (¬ ((eqF (mWithAge (toF a0) a1) (mWithAge (toF a0) a1)) = true)) →
            pMarkResponse (mWithAge (toF a0) a1) 1 ∧
            pHeldResponse ((mWithAge (toF a0) a1).1, (wMarkResponse (mWithAge (toF a0) a1) 1).1.2.1, (mWithAge (toF a0) a1).2.2) 1 ∧
            ((mHeldResponse ((mWithAge (toF a0) a1).1, (wMarkResponse (mWithAge (toF a0) a1) 1).1.2.1, (mWithAge (toF a0) a1).2.2) 1) < 0 →
              (Q false)) ∧
            (¬ ((mHeldResponse ((mWithAge (toF a0) a1).1, (wMarkResponse (mWithAge (toF a0) a1) 1).1.2.1, (mWithAge (toF a0) a1).2.2) 1) < 0) →
              ((mHeldResponse ((mWithAge (toF a0) a1).1, (wMarkResponse (mWithAge (toF a0) a1) 1).1.2.1, (mWithAge (toF a0) a1).2.2) 1) ≠ (mMarkResponse (mWithAge (toF a0) a1) 1) →
                (Q false)) ∧
              (¬ ((mHeldResponse ((mWithAge (toF a0) a1).1, (wMarkResponse (mWithAge (toF a0) a1) 1).1.2.1, (mWithAge (toF a0) a1).2.2) 1) ≠ (mMarkResponse (mWithAge (toF a0) a1) 1)) →
                pTo a0 ∧
                pWithAge (toF a0) a1 ∧
                pEq (mWithAge (toF a0) a1) (mWithAge (toF a0) a1) ∧
                (¬ ((eqF (mWithAge (toF a0) a1) (mWithAge (toF a0) a1)) = true) →
                  (Q false)) ∧
                (¬ (¬ ((eqF (mWithAge (toF a0) a1) (mWithAge (toF a0) a1)) = true)) →
                  pHeldResponse ((mWithAge (toF a0) a1).1, (wMarkResponse (mWithAge (toF a0) a1) 1).1.2.1, (mWithAge (toF a0) a1).2.2) 1 ∧
                  ((mHeldResponse ((mWithAge (toF a0) a1).1, (wMarkResponse (mWithAge (toF a0) a1) 1).1.2.1, (mWithAge (toF a0) a1).2.2) 1) < 0 →
                    (Q false)) ∧
                  (¬ ((mHeldResponse ((mWithAge (toF a0) a1).1, (wMarkResponse (mWithAge (toF a0) a1) 1).1.2.1, (mWithAge (toF a0) a1).2.2) 1) < 0) →
                    ((mHeldResponse ((mWithAge (toF a0) a1).1, (wMarkResponse (mWithAge (toF a0) a1) 1).1.2.1, (mWithAge (toF a0) a1).2.2) 1) ≠ (mMarkResponse (mWithAge (toF a0) a1) 1) →
                      (Q false)) ∧
                    (¬ ((mHeldResponse ((mWithAge (toF a0) a1).1, (wMarkResponse (mWithAge (toF a0) a1) 1).1.2.1, (mWithAge (toF a0) a1).2.2) 1) ≠ (mMarkResponse (mWithAge (toF a0) a1) 1)) →
                      (Q true)))))))))))

def s_laws_heldResponse (a0 : Rsp) (a1 : Int) (Q : (Int → Prop)) : Prop :=
  pHeldFieldS a0.2.1 a1 ∧
  ((mHeldFieldS a0.2.1 a1) < 0 →
    (Q (-1))) ∧
  (¬ ((mHeldFieldS a0.2.1 a1) < 0) →
    (Q (mHeldFieldS a0.2.1 a1)))

def s_laws_heldStringS (a0 : (List S)) (a1 : Int) (Q : (Int → Prop)) : Prop :=
  (∀ L0 : ((Int × Int) → Prop),
    ((
        (∀ y1 : (Int × Int),
          ((
              (y1.2 < (a0.length : Int) →
                0 ≤ y1.2 ∧
                y1.2 < (a0.length : Int) ∧
                pMarkText y1.1 ∧
                ((rx a0 y1.2) ≠ (mMarkText y1.1) →
                  (Q (-1))) ∧
                (¬ ((rx a0 y1.2) ≠ (mMarkText y1.1)) →
                  (L0 ((IntKind.i64.wrap (y1.1 + 1)), (IntKind.i64.wrap (y1.2 + 1)))))) ∧
              (¬ (y1.2 < (a0.length : Int)) →
                (Q y1.1))
            ) →
            (L0 y1)))
      ) →
      (L0 (a1, 0))))

def s_laws_markStringS (a0 : (List S)) (a1 : Int) (Q : (Int → (((List S) × Int) → Prop))) : Prop :=
  (∀ L0 : ((Int × (Int × (List S))) → Prop),
    ((
        (∀ y1 : (Int × (Int × (List S))),
          ((
              (y1.2.1 < (y1.2.2.length : Int) →
                pMarkText y1.1 ∧
                0 ≤ y1.2.1 ∧
                y1.2.1 < (y1.2.2.length : Int) ∧
                (L0 ((IntKind.i64.wrap (y1.1 + 1)), (IntKind.i64.wrap (y1.2.1 + 1)), (y1.2.2.set y1.2.1.toNat (mMarkText y1.1))))) ∧
              (¬ (y1.2.1 < (y1.2.2.length : Int)) →
                (Q y1.1 (y1.2.2, a1)))
            ) →
            (L0 y1)))
      ) →
      (L0 (a1, 0, a0))))

def s_spec_FieldSet (a0 : (List Fld)) (a1 : S) (a2 : S) (Q : ((List Fld) → Prop)) : Prop :=
  (∀ L0 : (((List Fld) × (Bool × Int)) → Prop),
    ((
        (∀ y1 : ((List Fld) × (Bool × Int)),
          ((
              (y1.2.2 < (a0.length : Int) →
                0 ≤ y1.2.2 ∧
                y1.2.2 < (a0.length : Int) ∧
                ((rx a0 y1.2.2).1 ≠ a1 →
                  0 ≤ y1.2.2 ∧
                  y1.2.2 < (a0.length : Int) ∧
                  (y1.1.length + [(rx a0 y1.2.2)].length) * 32 ≤ 140737488355328 ∧
                  (L0 ((y1.1 ++ [(rx a0 y1.2.2)]), y1.2.1, (IntKind.i64.wrap (y1.2.2 + 1))))) ∧
                (¬ ((rx a0 y1.2.2).1 ≠ a1) →
                  (¬ (y1.2.1 = true) →
                    (y1.1.length + [(a1, a2)].length) * 32 ≤ 140737488355328 ∧
                    (L0 ((y1.1 ++ [(a1, a2)]), true, (IntKind.i64.wrap (y1.2.2 + 1))))) ∧
                  (¬ (¬ (y1.2.1 = true)) →
                    (L0 (y1.1, y1.2.1, (IntKind.i64.wrap (y1.2.2 + 1))))))) ∧
              (¬ (y1.2.2 < (a0.length : Int)) →
                (¬ (y1.2.1 = true) →
                  (y1.1.length + [(a1, a2)].length) * 32 ≤ 140737488355328 ∧
                  (Q (y1.1 ++ [(a1, a2)]))) ∧
                (¬ (¬ (y1.2.1 = true)) →
                  (Q y1.1)))
            ) →
            (L0 y1)))
      ) →
      (L0 ([], false, 0))))

def s_spec_WithAge (a0 : Rsp) (a1 : Int) (Q : (Rsp → Prop)) : Prop :=
  pDec (if 0 < (if 2147483648 < a1 then 2147483648 else a1) then (if 2147483648 < a1 then 2147483648 else a1) else 0) ∧
  pFieldSet a0.2.1 (lit [97, 103, 101]) (mDec (if 0 < (if 2147483648 < a1 then 2147483648 else a1) then (if 2147483648 < a1 then 2147483648 else a1) else 0)) ∧
  (Q (a0.1, (mFieldSet a0.2.1 (lit [97, 103, 101]) (mDec (if 0 < (if 2147483648 < a1 then 2147483648 else a1) then (if 2147483648 < a1 then 2147483648 else a1) else 0))), a0.2.2))

end Go.Ev
end

section
/- What the laws' marks come to, and the law of Picked: printed by a program of this session's own (EwShow) out of the small machine. -/
set_option linter.unusedVariables false
namespace Go.Ev

def s_laws_FnExactPicked (a0 : Req) (a1 : Rsp) (Q : (Bool → Prop)) : Prop :=
  pSz a0 1048576 ∧
  ((szF a0 1048576) < 0 →
    (Q true)) ∧
  (¬ ((szF a0 1048576) < 0) →
    pSz a1 (szF a0 1048576) ∧
    ((szF a1 (szF a0 1048576)) < 0 →
      (Q true)) ∧
    (¬ ((szF a1 (szF a0 1048576)) < 0) →
      pTo a0 ∧
      pTo a1 ∧
      pPicked (toF a0) (toF a1) ∧
      pTo a0 ∧
      pTo a1 ∧
      pPicked (toF a0) (toF a1) ∧
      pEq (mPicked (toF a0) (toF a1)) (mPicked (toF a0) (toF a1)) ∧
      (¬ ((eqF (mPicked (toF a0) (toF a1)) (mPicked (toF a0) (toF a1))) = true) →
        (Q false)) ∧
      (¬ (¬ ((eqF (mPicked (toF a0) (toF a1)) (mPicked (toF a0) (toF a1))) = true)) →
        pTo a0 ∧
        pEq (toF a0) (toF a0) ∧
        (¬ ((eqF (toF a0) (toF a0)) = true) →
          (Q false)) ∧
        (¬ (¬ ((eqF (toF a0) (toF a0)) = true)) →
          pTo a1 ∧
          pEq (toF a1) (toF a1) ∧
          (¬ ((eqF (toF a1) (toF a1)) = true) →
            (Q false)) ∧
          (¬ (¬ ((eqF (toF a1) (toF a1)) = true)) →
            pMarkRequest (toF a0) 1 ∧
            pMarkResponse (toF a1) (mMarkRequest (toF a0) 1) ∧
            ((mMarkResponse (toF a1) (mMarkRequest (toF a0) 1)) < 0 →
              (Q false)) ∧
            (¬ ((mMarkResponse (toF a1) (mMarkRequest (toF a0) 1)) < 0) →
              pEq (mPicked (toF a0) (toF a1)) (mPicked (toF a0) (toF a1)) ∧
              (¬ ((eqF (mPicked (toF a0) (toF a1)) (mPicked (toF a0) (toF a1))) = true) →
                (Q false)) ∧
              (¬ (¬ ((eqF (mPicked (toF a0) (toF a1)) (mPicked (toF a0) (toF a1))) = true)) →
                pMarkFieldS (mPicked (toF a0) (toF a1)) 1 ∧
                pHeldFieldS (wMarkFieldS (mPicked (toF a0) (toF a1)) 1).1 1 ∧
                ((mHeldFieldS (wMarkFieldS (mPicked (toF a0) (toF a1)) 1).1 1) < 0 →
                  (Q false)) ∧
                (¬ ((mHeldFieldS (wMarkFieldS (mPicked (toF a0) (toF a1)) 1).1 1) < 0) →
                  ((mHeldFieldS (wMarkFieldS (mPicked (toF a0) (toF a1)) 1).1 1) ≠ (mMarkFieldS (mPicked (toF a0) (toF a1)) 1) →
                    (Q false)) ∧
                  (¬ ((mHeldFieldS (wMarkFieldS (mPicked (toF a0) (toF a1)) 1).1 1) ≠ (mMarkFieldS (mPicked (toF a0) (toF a1)) 1)) →
                    pTo a0 ∧
                    pTo a1 ∧
                    pPicked (toF a0) (toF a1) ∧
                    pEq (mPicked (toF a0) (toF a1)) (mPicked (toF a0) (toF a1)) ∧
                    (¬ ((eqF (mPicked (toF a0) (toF a1)) (mPicked (toF a0) (toF a1))) = true) →
                      (Q false)) ∧
                    (¬ (¬ ((eqF (mPicked (toF a0) (toF a1)) (mPicked (toF a0) (toF a1))) = true)) →
                      pHeldFieldS (wMarkFieldS (mPicked (toF a0) (toF a1)) 1).1 1 ∧
                      ((mHeldFieldS (wMarkFieldS (mPicked (toF a0) (toF a1)) 1).1 1) < 0 →
                        (Q false)) ∧
                      (¬ ((mHeldFieldS (wMarkFieldS (mPicked (toF a0) (toF a1)) 1).1 1) < 0) →
                        ((mHeldFieldS (wMarkFieldS (mPicked (toF a0) (toF a1)) 1).1 1) ≠ (mMarkFieldS (mPicked (toF a0) (toF a1)) 1) →
                          (Q false)) ∧
                        (¬ ((mHeldFieldS (wMarkFieldS (mPicked (toF a0) (toF a1)) 1).1 1) ≠ (mMarkFieldS (mPicked (toF a0) (toF a1)) 1)) →
                          (Q true)))))))))))))

def s_laws_heldFieldS (a0 : (List Fld)) (a1 : Int) (Q : (Int → Prop)) : Prop :=
  (∀ L0 : ((Int × Int) → Prop),
    ((
        (∀ y1 : (Int × Int),
          ((
              (y1.2 < (a0.length : Int) →
                0 ≤ y1.2 ∧
                y1.2 < (a0.length : Int) ∧
                pMarkText y1.1 ∧
                ((rx a0 y1.2).1 ≠ (mMarkText y1.1) →
                  (Q (-1))) ∧
                (¬ ((rx a0 y1.2).1 ≠ (mMarkText y1.1)) →
                  0 ≤ y1.2 ∧
                  y1.2 < (a0.length : Int) ∧
                  pMarkText (IntKind.i64.wrap (y1.1 + 1)) ∧
                  ((rx a0 y1.2).2 ≠ (mMarkText (IntKind.i64.wrap (y1.1 + 1))) →
                    (Q (-1))) ∧
                  (¬ ((rx a0 y1.2).2 ≠ (mMarkText (IntKind.i64.wrap (y1.1 + 1)))) →
                    (L0 ((IntKind.i64.wrap ((IntKind.i64.wrap (y1.1 + 1)) + 1)), (IntKind.i64.wrap (y1.2 + 1))))))) ∧
              (¬ (y1.2 < (a0.length : Int)) →
                (Q y1.1))
            ) →
            (L0 y1)))
      ) →
      (L0 (a1, 0))))

def s_laws_markFieldS (a0 : (List Fld)) (a1 : Int) (Q : (Int → (((List Fld) × Int) → Prop))) : Prop :=
  (∀ L0 : ((Int × (Int × (List Fld))) → Prop),
    ((
        (∀ y1 : (Int × (Int × (List Fld))),
          ((
              (y1.2.1 < (y1.2.2.length : Int) →
                pMarkText y1.1 ∧
                0 ≤ y1.2.1 ∧
                y1.2.1 < (y1.2.2.length : Int) ∧
                pMarkText (IntKind.i64.wrap (y1.1 + 1)) ∧
                0 ≤ y1.2.1 ∧
                y1.2.1 < ((y1.2.2.set y1.2.1.toNat ((mMarkText y1.1), (rx y1.2.2 y1.2.1).2)).length : Int) ∧
                (L0 ((IntKind.i64.wrap ((IntKind.i64.wrap (y1.1 + 1)) + 1)), (IntKind.i64.wrap (y1.2.1 + 1)), ((y1.2.2.set y1.2.1.toNat ((mMarkText y1.1), (rx y1.2.2 y1.2.1).2)).set y1.2.1.toNat ((rx (y1.2.2.set y1.2.1.toNat ((mMarkText y1.1), (rx y1.2.2 y1.2.1).2)) y1.2.1).1, (mMarkText (IntKind.i64.wrap (y1.1 + 1)))))))) ∧
              (¬ (y1.2.1 < (y1.2.2.length : Int)) →
                (Q y1.1 (y1.2.2, a1)))
            ) →
            (L0 y1)))
      ) →
      (L0 (a1, 0, a0))))

def s_laws_markRequest (a0 : Req) (a1 : Int) (Q : (Int → ((Req × Int) → Prop))) : Prop :=
  pMarkFieldS a0.2.2.1 a1 ∧
  (Q (mMarkFieldS a0.2.2.1 a1) ((a0.1, a0.2.1, (wMarkFieldS a0.2.2.1 a1).1, a0.2.2.2), a1))

def s_laws_markResponse (a0 : Rsp) (a1 : Int) (Q : (Int → ((Rsp × Int) → Prop))) : Prop :=
  pMarkFieldS a0.2.1 a1 ∧
  (Q (mMarkFieldS a0.2.1 a1) ((a0.1, (wMarkFieldS a0.2.1 a1).1, a0.2.2), a1))

def s_laws_markText (a0 : Int) (Q : (S → Prop)) : Prop :=
  (a0 ≤ 0 →
    (Q (lit [109, 48]))) ∧
  (¬ (a0 ≤ 0) →
    (∀ L0 : ((Int × S) → Prop),
      ((
          (∀ y1 : (Int × S),
            ((
                (0 < y1.1 →
                  (10 : Int) ≠ 0 ∧
                  (strOf [(IntKind.u8.wrap (IntKind.i64.wrap (48 + (y1.1.tmod 10))))]).size + y1.2.size ≤ 9223372036854775807 ∧
                  (10 : Int) ≠ 0 ∧
                  (L0 ((IntKind.i64.wrap (y1.1.tdiv 10)), ((strOf [(IntKind.u8.wrap (IntKind.i64.wrap (48 + (y1.1.tmod 10))))]) ++ y1.2)))) ∧
                (¬ (0 < y1.1) →
                  (lit [109]).size + y1.2.size ≤ 9223372036854775807 ∧
                  (Q ((lit [109]) ++ y1.2)))
              ) →
              (L0 y1)))
        ) →
        (L0 (a0, (lit []))))))

end Go.Ev
end

section
/- What more of the laws' functions come to: printed by a program of this session's own (EwShow) out of the small machine. -/
set_option linter.unusedVariables false
namespace Go.Ev

def s_laws_FnExactNormal (a0 : S) (Q : (Bool → Prop)) : Prop :=
  (1048576 < (a0.size : Int) →
    (Q true)) ∧
  (¬ (1048576 < (a0.size : Int)) →
    pNormal a0 ∧
    pNormal a0 ∧
    ((mNormal a0) ≠ (mNormal a0) →
      (Q false)) ∧
    (¬ ((mNormal a0) ≠ (mNormal a0)) →
      (Q true)))

def s_laws_FnExactStoredOk (a0 : Sto) (Q : (Bool → Prop)) : Prop :=
  pSz a0 1048576 ∧
  ((szF a0 1048576) < 0 →
    (Q true)) ∧
  (¬ ((szF a0 1048576) < 0) →
    pTo a0 ∧
    pStoredOk (toF a0) ∧
    pTo a0 ∧
    pStoredOk (toF a0) ∧
    ((mStoredOk (toF a0)) ≠ (mStoredOk (toF a0)) →
      (Q false)) ∧
    (¬ ((mStoredOk (toF a0)) ≠ (mStoredOk (toF a0))) →
      pTo a0 ∧
      pEq (toF a0) (toF a0) ∧
      (¬ ((eqF (toF a0) (toF a0)) = true) →
        (Q false)) ∧
      (¬ (¬ ((eqF (toF a0) (toF a0)) = true)) →
        (Q true))))

def s_laws_FnExactVersionIn (a0 : Rsp) (Q : (Bool → Prop)) : Prop :=
  pSz a0 1048576 ∧
  ((szF a0 1048576) < 0 →
    (Q true)) ∧
  (¬ ((szF a0 1048576) < 0) →
    pTo a0 ∧
    pVersionIn (toF a0) ∧
    pTo a0 ∧
    pVersionIn (toF a0) ∧
    ((mVersionIn (toF a0)) ≠ (mVersionIn (toF a0)) →
      (Q false)) ∧
    (¬ ((mVersionIn (toF a0)) ≠ (mVersionIn (toF a0))) →
      pTo a0 ∧
      pEq (toF a0) (toF a0) ∧
      (¬ ((eqF (toF a0) (toF a0)) = true) →
        (Q false)) ∧
      (¬ (¬ ((eqF (toF a0) (toF a0)) = true)) →
        (Q true))))

end Go.Ev
end

section
/- What the laws' functions come to: printed by a program of this session's own (EwShow) out of the small machine. -/
set_option linter.unusedVariables false
namespace Go.Ev

def s_laws_FnExactFilled (a0 : Shd) (Q : (Bool → Prop)) : Prop :=
  pSz a0 1048576 ∧
  ((szF a0 1048576) < 0 →
    (Q true)) ∧
  (¬ ((szF a0 1048576) < 0) →
    pTo a0 ∧
    pFilled (toF a0) ∧
    pTo a0 ∧
    pFilled (toF a0) ∧
    ((mFilled (toF a0)) ≠ (mFilled (toF a0)) →
      (Q false)) ∧
    (¬ ((mFilled (toF a0)) ≠ (mFilled (toF a0))) →
      pTo a0 ∧
      pEq (toF a0) (toF a0) ∧
      (¬ ((eqF (toF a0) (toF a0)) = true) →
        (Q false)) ∧
      (¬ (¬ ((eqF (toF a0) (toF a0)) = true)) →
        (Q true))))

def s_laws_FnExactMayShare (a0 : Req) (a1 : Flt) (a2 : Int) (Q : (Bool → Prop)) : Prop :=
  pSz a0 1048576 ∧
  ((szF a0 1048576) < 0 →
    (Q true)) ∧
  (¬ ((szF a0 1048576) < 0) →
    pSz a1 (szF a0 1048576) ∧
    ((szF a1 (szF a0 1048576)) < 0 →
      (Q true)) ∧
    (¬ ((szF a1 (szF a0 1048576)) < 0) →
      pTo a0 ∧
      pTo a1 ∧
      pMayShare (toF a0) (toF a1) a2 ∧
      pTo a0 ∧
      pTo a1 ∧
      pMayShare (toF a0) (toF a1) a2 ∧
      ((mMayShare (toF a0) (toF a1) a2) ≠ (mMayShare (toF a0) (toF a1) a2) →
        (Q false)) ∧
      (¬ ((mMayShare (toF a0) (toF a1) a2) ≠ (mMayShare (toF a0) (toF a1) a2)) →
        pTo a0 ∧
        pEq (toF a0) (toF a0) ∧
        (¬ ((eqF (toF a0) (toF a0)) = true) →
          (Q false)) ∧
        (¬ (¬ ((eqF (toF a0) (toF a0)) = true)) →
          pTo a1 ∧
          pEq (toF a1) (toF a1) ∧
          (¬ ((eqF (toF a1) (toF a1)) = true) →
            (Q false)) ∧
          (¬ (¬ ((eqF (toF a1) (toF a1)) = true)) →
            (Q true))))))

def s_laws_FnExactOnlyStored (a0 : Req) (Q : (Bool → Prop)) : Prop :=
  pSz a0 1048576 ∧
  ((szF a0 1048576) < 0 →
    (Q true)) ∧
  (¬ ((szF a0 1048576) < 0) →
    pTo a0 ∧
    pOnlyStored (toF a0) ∧
    pTo a0 ∧
    pOnlyStored (toF a0) ∧
    ((mOnlyStored (toF a0)) ≠ (mOnlyStored (toF a0)) →
      (Q false)) ∧
    (¬ ((mOnlyStored (toF a0)) ≠ (mOnlyStored (toF a0))) →
      pTo a0 ∧
      pEq (toF a0) (toF a0) ∧
      (¬ ((eqF (toF a0) (toF a0)) = true) →
        (Q false)) ∧
      (¬ (¬ ((eqF (toF a0) (toF a0)) = true)) →
        (Q true))))

def s_laws_FnExactOriginOk (a0 : (List Rsc)) (Q : (Bool → Prop)) : Prop :=
  pSz a0 1048576 ∧
  ((szF a0 1048576) < 0 →
    (Q true)) ∧
  (¬ ((szF a0 1048576) < 0) →
    pTo a0 ∧
    pOriginOk (toF a0) ∧
    pTo a0 ∧
    pOriginOk (toF a0) ∧
    ((mOriginOk (toF a0)) ≠ (mOriginOk (toF a0)) →
      (Q false)) ∧
    (¬ ((mOriginOk (toF a0)) ≠ (mOriginOk (toF a0))) →
      pTo a0 ∧
      pEq (toF a0) (toF a0) ∧
      (¬ ((eqF (toF a0) (toF a0)) = true) →
        (Q false)) ∧
      (¬ (¬ ((eqF (toF a0) (toF a0)) = true)) →
        (Q true))))

def s_laws_FnExactShardOk (a0 : Shd) (Q : (Bool → Prop)) : Prop :=
  pSz a0 1048576 ∧
  ((szF a0 1048576) < 0 →
    (Q true)) ∧
  (¬ ((szF a0 1048576) < 0) →
    pTo a0 ∧
    pShardOk (toF a0) ∧
    pTo a0 ∧
    pShardOk (toF a0) ∧
    ((mShardOk (toF a0)) ≠ (mShardOk (toF a0)) →
      (Q false)) ∧
    (¬ ((mShardOk (toF a0)) ≠ (mShardOk (toF a0))) →
      pTo a0 ∧
      pEq (toF a0) (toF a0) ∧
      (¬ ((eqF (toF a0) (toF a0)) = true) →
        (Q false)) ∧
      (¬ (¬ ((eqF (toF a0) (toF a0)) = true)) →
        (Q true))))

def s_laws_FnExactStorable (a0 : Req) (a1 : Rsp) (Q : (Bool → Prop)) : Prop :=
  pSz a0 1048576 ∧
  ((szF a0 1048576) < 0 →
    (Q true)) ∧
  (¬ ((szF a0 1048576) < 0) →
    pSz a1 (szF a0 1048576) ∧
    ((szF a1 (szF a0 1048576)) < 0 →
      (Q true)) ∧
    (¬ ((szF a1 (szF a0 1048576)) < 0) →
      pTo a0 ∧
      pTo a1 ∧
      pStorable (toF a0) (toF a1) ∧
      pTo a0 ∧
      pTo a1 ∧
      pStorable (toF a0) (toF a1) ∧
      ((mStorable (toF a0) (toF a1)) ≠ (mStorable (toF a0) (toF a1)) →
        (Q false)) ∧
      (¬ ((mStorable (toF a0) (toF a1)) ≠ (mStorable (toF a0) (toF a1))) →
        pTo a0 ∧
        pEq (toF a0) (toF a0) ∧
        (¬ ((eqF (toF a0) (toF a0)) = true) →
          (Q false)) ∧
        (¬ (¬ ((eqF (toF a0) (toF a0)) = true)) →
          pTo a1 ∧
          pEq (toF a1) (toF a1) ∧
          (¬ ((eqF (toF a1) (toF a1)) = true) →
            (Q false)) ∧
          (¬ (¬ ((eqF (toF a1) (toF a1)) = true)) →
            (Q true))))))

def s_laws_FnExactVaryFits (a0 : Req) (a1 : Rsp) (a2 : (List Fld)) (Q : (Bool → Prop)) : Prop :=
  pSz a0 1048576 ∧
  ((szF a0 1048576) < 0 →
    (Q true)) ∧
  (¬ ((szF a0 1048576) < 0) →
    pSz a1 (szF a0 1048576) ∧
    ((szF a1 (szF a0 1048576)) < 0 →
      (Q true)) ∧
    (¬ ((szF a1 (szF a0 1048576)) < 0) →
      pSz a2 (szF a1 (szF a0 1048576)) ∧
      ((szF a2 (szF a1 (szF a0 1048576))) < 0 →
        (Q true)) ∧
      (¬ ((szF a2 (szF a1 (szF a0 1048576))) < 0) →
        pTo a0 ∧
        pTo a1 ∧
        pTo a2 ∧
        pVaryFits (toF a0) (toF a1) (toF a2) ∧
        pTo a0 ∧
        pTo a1 ∧
        pTo a2 ∧
        pVaryFits (toF a0) (toF a1) (toF a2) ∧
        ((mVaryFits (toF a0) (toF a1) (toF a2)) ≠ (mVaryFits (toF a0) (toF a1) (toF a2)) →
          (Q false)) ∧
        (¬ ((mVaryFits (toF a0) (toF a1) (toF a2)) ≠ (mVaryFits (toF a0) (toF a1) (toF a2))) →
          pTo a0 ∧
          pEq (toF a0) (toF a0) ∧
          (¬ ((eqF (toF a0) (toF a0)) = true) →
            (Q false)) ∧
          (¬ (¬ ((eqF (toF a0) (toF a0)) = true)) →
            pTo a1 ∧
            pEq (toF a1) (toF a1) ∧
            (¬ ((eqF (toF a1) (toF a1)) = true) →
              (Q false)) ∧
            (¬ (¬ ((eqF (toF a1) (toF a1)) = true)) →
              pTo a2 ∧
              pEq (toF a2) (toF a2) ∧
              (¬ ((eqF (toF a2) (toF a2)) = true) →
                (Q false)) ∧
              (¬ (¬ ((eqF (toF a2) (toF a2)) = true)) →
                (Q true))))))))

end Go.Ev
end
