/- A small verified machine for the operations of the given program, and plain laws of what its functions compute; without conditions of its own. Part 4. -/
import Derived.Test.Ytdglpinlegnjkaacn2
import Derived.ChangeArms
import Derived.Deep.Slices
import Derived.DataReads
import Derived.WideShapes
import Derived.Test.YtdglpinlegnjkaaProg
import Derived.WalkKit
import Derived.Shelf.RegionOpenPlain
import Derived.Laws.Entries
import Derived.Laws.CopyRow
import Derived.Laws.MakeOwn
import Derived.LoopN
import Derived.Handy
import Derived.Lib.SlTrimSet
import Derived.Lib.Bytealg
import Derived.Lib.IndexMore
import Derived.Lib.Join
import Derived.Lib.ItoaMem
import Derived.Lib.ItoaLen
import Derived.Lib.AppendIntMem
import Derived.Lib.LaidTab
import Derived.Stop.LaidErr
import Derived.Laws.IdiomStrings
import Derived.Lib.AtoiAllMem
import Derived.Lib.AtoiAllCases
import Derived.Lib.Split
set_option linter.unusedVariables false
set_option linter.unusedSimpArgs false
section
/- The small machine is true to the model: a region that draws its order, walked in the text's order. -/
set_option linter.unusedVariables false
namespace Go.Ev
open Go.RowKit

section
variable {P : Program} {E : Env} {F : Fm} {G : Gh} {σ τ σ' : St} {a : Act} {w w' : World} {tmps : Array Value} {base : Nat} {nr : Nat → List (Nat × Option Reg)} {nb : Nat → List (Nat × List Leaf)} {s : Nat → Slot} {D D' : Nat → Bool}

def left (D : Nat → Bool) : Nat → Nat
  | 0 => 0
  | n + 1 => left D n + (if D n = true then 0 else 1)
theorem left_zero : ∀ {n : Nat}, left D n = 0 → ∀ i, i < n → D i = true
  | 0, _, i, hi => by omega
  | n + 1, h, i, hi => by
    simp only [left] at h
    by_cases hn : D n = true
    · rcases Nat.lt_or_ge i n with h1 | h1
      · exact left_zero (by omega) i h1
      · have : i = n := by omega
        rw [this]; exact hn
    · rw [if_neg hn] at h; omega
theorem left_same : ∀ {n : Nat}, (∀ j, j < n → (D' j = true ↔ D j = true)) → left D' n = left D n
  | 0, _ => rfl
  | n + 1, h => by
    have ih := left_same (n := n) fun j hj => h j (by omega)
    simp only [left, ih]
    have := h n (by omega)
    by_cases hn : D n = true
    · rw [if_pos hn, if_pos (this.2 hn)]
    · rw [if_neg hn, if_neg fun h => hn (this.1 h)]
theorem left_set {i : Nat} (hi : D i = false) (hD' : ∀ j, D' j = true ↔ (j = i ∨ D j = true)) : ∀ {n : Nat}, i < n → left D' n + 1 = left D n
  | 0, h => by omega
  | n + 1, h => by
    simp only [left]
    by_cases e : i = n
    · subst e
      rw [if_pos ((hD' i).2 (.inl rfl)), if_neg (by simp [hi]), left_same (D := D) (D' := D') fun j hj => by
        rw [hD']
        constructor
        · rintro (e | h)
          · omega
          · exact h
        · exact .inr]
    · have := left_set hi hD' (n := n) (by omega)
      have h2 : D' n = true ↔ D n = true := by
        rw [hD']
        constructor
        · rintro (e' | h)
          · exact absurd e'.symm e
          · exact h
        · exact .inr
      by_cases hn : D n = true
      · rw [if_pos hn, if_pos (h2.2 hn)]; omega
      · rw [if_neg hn, if_neg fun h => hn (h2.1 h)]; omega

theorem op_same {x : Operand} (h : ∀ t, x = .tmp t → nth (.cell .junk) τ.slots t = nth (.cell .junk) σ.slots t) : τ.op x = σ.op x := by
  cases x with
  | tmp t => exact h t rfl
  | _ => rfl

theorem says_rel {d : Option Nat} {s0 s1 : Slot} (h : Rel F G (τ.setSlot d s0) tmps w) (hs : Says s0 s1) : Rel F G (τ.setSlot d s1) tmps w := by
  cases d with
  | none => exact h
  | some d =>
    by_cases hlt : d < τ.slots.length
    · have h1 := h.slots d
      have e : nth (.cell .junk) (τ.setSlot (some d) s0).slots d = s0 := by
        simp only [St.setSlot, nth_put]
        rw [if_pos ⟨trivial, hlt⟩]
      rw [e] at h1
      have := h.slotT (g := d) (s := s1) (hs _ _ _ _ _ h1)
      rwa [setSlot_setSlot] at this
    · have e2 : ∀ s : Slot, τ.setSlot (some d) s = τ := fun s => by
        simp only [St.setSlot]
        rw [chain.put_far _ _ _ (Nat.le_of_not_lt hlt)]
      rw [e2] at h ⊢
      exact h
theorem any_ok (hE : EnvOk P E) (hC : EnvCts P E F.w0 F.n0) {Q : Exit → Act → World → Prop} (hP : ∀ c a w, ¬ Q (.panic c) a w) {ops : Array Oper} (hX : ∀ o ∈ ops.toList, ∀ i, o.dst = some i → F.free i) {st : Nat → St} {l0 : List Oper} {L : Nat → Bool} (hpre : ∀ (j : Nat) (o : Oper), l0[j]? = some o → ops.toList[j]? = some o)
    (hbig : ∀ (i : Nat) (o : Oper), ops.toList[i]? = some o → l0.length ≤ i → ∀ listed : Array Bool, (∀ e ∈ o.after, Region.binds .any e = true → listed.getD e.on false = true) → (∀ (j : Nat) (o' : Oper), l0[j]? = some o' → listed.getD j false = true → ∀ e ∈ o'.after, Region.binds .any e = true → listed.getD e.on false = true) →
      (∀ j, l0.length ≤ j → listed.getD j false = false) → ∀ j, j < l0.length → L j = false → listed.getD j false = true)
    (hfl : ∀ (i : Nat) (oi : Oper), l0[i]? = some oi → L i = true → lateOp E oi = true ∧ ∃ W : Nat → Prop, ¬ W i ∧ (∀ (j : Nat) (oj : Oper), W j → ops[j]? = some oj → ∃ e ∈ oj.after, Region.binds .any e = true ∧ (e.on = i ∨ W e.on)) ∧
      (∀ j, W j → j < l0.length → ∃ oj, l0[j]? = some oj ∧ ∃ e ∈ oj.after, Region.binds .any e = true ∧ e.on = i) ∧
      (∀ (j : Nat) (oj : Oper) (d : Nat), ops[j]? = some oj → oi.dst = some d → j ≠ i → ¬ W j → (∀ e ∈ oi.after, Region.binds .any e = true → e.on ≠ j) → (j < l0.length → L j = true) → (isLoad oi = false ∨ calmOp oj.op = true) ∧ toldOp oj.op = true ∧ oj.guard = none ∧ d ∉ tmpsOf oj ∧ oj.dst ≠ some d ∧ ∀ d', oj.dst = some d' → d' ∉ tmpsOf oi))
    (hp : Pairs l0) (h0 : Reg0 base l0 nr nb σ)
    (hst : ∀ k, At base l0 nr nb s σ (fun j => Nat.blt j k) (st k)) (hop : ∀ k o, l0[k]? = some o → OpAt E ops.toList o (base + 256 * k) (st k) (st (k + 1)) (nr k) (nb k) (s k))
    (hQ : ∀ (fuel : Nat) (listed : Array Bool) a w, listed.size = ops.size → (∀ j, j < l0.length → listed.getD j false = true) → (∀ j, l0.length ≤ j → listed.getD j false = false) → ops.size - l0.length ≤ fuel → Ok F (st l0.length) a w → wpAny P .any ops Q fuel listed a w) :
    ∀ (fuel : Nat) (listed : Array Bool) (a : Act) (w : World) (τ : St), listed.size = ops.size → left (fun j => listed.getD j false) l0.length + (ops.size - l0.length) ≤ fuel → (∀ j, l0.length ≤ j → listed.getD j false = false) → At base l0 nr nb s σ (fun j => listed.getD j false) τ → Ok F τ a w →
      (∀ j o', l0[j]? = some o' → listed.getD j false = true → ∀ e ∈ o'.after, Region.binds .any e = true → listed.getD e.on false = true) → wpAny P .any ops Q fuel listed a w := by
  have hlen : l0.length ≤ ops.size := by
    rcases Nat.eq_zero_or_pos l0.length with h | h
    · omega
    · have h1 : l0[l0.length - 1]? = some l0[l0.length - 1] := List.getElem?_eq_getElem (by omega)
      have h2 := (List.getElem?_eq_some_iff.1 (hpre _ _ h1)).1
      have h3 : ops.toList.length = ops.size := Array.length_toList
      omega
  -- all have come up
  have done : ∀ (listed : Array Bool) (a : Act) (w : World) (τ : St), (∀ i, i < l0.length → listed.getD i false = true) → At base l0 nr nb s σ (fun j => listed.getD j false) τ → Ok F τ a w → Ok F (st l0.length) a w := by
    intro listed a w τ hall hA ⟨G, hR, hd⟩
    refine ⟨G, ?_, hd⟩
    have hn := hst l0.length
    have hlt : ∀ j o, l0[j]? = some o → Nat.blt j l0.length = true := fun j o hj => by
      have := (List.getElem?_eq_some_iff.1 hj).1
      exact Nat.ble_eq_true_of_le this
    have hlt' : ∀ j o, l0[j]? = some o → listed.getD j false = true := fun j o hj => hall j (List.getElem?_eq_some_iff.1 hj).1
    refine hR.same (fun d => ?_) (hn.len.trans hA.len.symm) (fun r => ?_) (fun r => ?_)
    · by_cases hex : ∃ (j : Nat) (o : Oper), l0[j]? = some o ∧ o.dst = some d
      · obtain ⟨j, o, hj, hd⟩ := hex
        rw [hn.hit j o hj (hlt j o hj) d hd, hA.hit j o hj (hlt' j o hj) d hd]
      · rw [hn.miss d fun j o hj _ hd => hex ⟨j, o, hj, hd⟩, hA.miss d fun j o hj _ hd => hex ⟨j, o, hj, hd⟩]
    · by_cases hex : ∃ (j : Nat) (o : Oper), l0[j]? = some o ∧ base + 256 * j ≤ r ∧ r < base + 256 * j + 256
      · obtain ⟨j, o, hj, h1, h2⟩ := hex
        rw [hn.bmade j o hj (hlt j o hj) r h1 h2, hA.bmade j o hj (hlt' j o hj) r h1 h2]
      · rw [hn.bold r fun j o hj _ hd => hex ⟨j, o, hj, hd⟩, hA.bold r fun j o hj _ hd => hex ⟨j, o, hj, hd⟩]
    · by_cases hex : ∃ (j : Nat) (o : Oper), l0[j]? = some o ∧ base + 256 * j ≤ r ∧ r < base + 256 * j + 256
      · obtain ⟨j, o, hj, h1, h2⟩ := hex
        rw [hn.made j o hj (hlt j o hj) r h1 h2, hA.made j o hj (hlt' j o hj) r h1 h2]
      · rw [hn.old r fun j o hj _ hd => hex ⟨j, o, hj, hd⟩, hA.old r fun j o hj _ hd => hex ⟨j, o, hj, hd⟩]
  -- none is ready: all have come up
  have none_ready : ∀ (listed : Array Bool), listed.size = ops.size → Region.ready .any ops listed = [] → ∀ i, i < l0.length → listed.getD i false = true := by
    intro listed hsz hr i
    induction i using Nat.strongRecOn with
    | _ i ih =>
      intro hi
      cases hl : listed.getD i false with
      | true => rfl
      | false =>
        exfalso
        have hio : l0[i]? = some l0[i] := List.getElem?_eq_getElem hi
        have : i ∈ Region.ready .any ops listed := mem_ready.2 ⟨by
          rw [Array.getD_eq_getD_getElem?] at hl ⊢
          have hlt : i < listed.size := by omega
          rw [Array.getElem?_eq_getElem hlt] at hl ⊢
          simpa using hl, l0[i], by rw [← Array.getElem?_toList]; exact hpre _ _ hio, fun e he hb => by
          have := (hp.at_ i _ hio).2.2 e he hb
          exact ih e.on this (by omega)⟩
        rw [hr] at this
        cases this
  intro fuel
  induction fuel with
  | zero =>
    intro listed a w τ hsz hc hno hA hok hdown
    have hall := left_zero (D := fun j => listed.getD j false) (n := l0.length) (by omega)
    exact hQ 0 listed a w hsz hall hno (by omega) (done listed a w τ hall hA hok)
  | succ fuel ih =>
    intro listed a w τ hsz hc hno hA hok hdown
    by_cases hall : ∀ i, i < l0.length → listed.getD i false = true
    · exact hQ _ listed a w hsz hall hno (by omega) (done listed a w τ hall hA hok)
    have body : ∀ i, i ∈ Region.ready .any ops listed → i < l0.length → ∃ o, ops[i]? = some o ∧ l0[i]? = some o ∧ ((Region.wanted o (yielded ops a.tmps) = false ∧ wpAny P .any ops Q fuel (listed.setIfInBounds i true) (a.put o.dst undef) w) ∨
        (Region.wanted o (yielded ops a.tmps) = true ∧ OpOk P o a w (fun v w' => wpAny P .any ops Q fuel (listed.setIfInBounds i true) (a.put o.dst v) w') ∧ ∃ id' ps' σ1, step (drawEnv E τ o.op) τ id' o = some (ps', σ1))) := by
     intro i hi hil
     obtain ⟨hun, o, ho, hready⟩ := mem_ready.1 hi
     have ho0 : ops.toList[i]? = some o := by rw [Array.getElem?_toList]; exact ho
     have ho' : l0[i]? = some o := by
       have h1 : l0[i]? = some l0[i] := List.getElem?_eq_getElem hil
       have h2 := hpre _ _ h1
       rw [ho0] at h2
       rw [h1, h2]
     have hlt : i < ops.size := by omega
     have hlt' : i < listed.size := by omega
     have hDi : listed.getD i false = false := by
       rw [Array.getD_eq_getD_getElem?] at hun ⊢
       rw [Array.getElem?_eq_getElem hlt'] at hun ⊢
       simpa using hun
     obtain ⟨hguard, ⟨xs, hxs⟩, hafter⟩ := hp.at_ i o ho'
     obtain ⟨hnext, ⟨hkeys, hbkeys⟩, hcase⟩ := hop i o ho'
     obtain ⟨G, hR, hd⟩ := hok
     have hAi := hst i
     have hblt : ∀ j, Nat.blt j i = true ↔ j < i := fun j => ⟨fun h => Nat.le_of_ble_eq_true h, fun h => Nat.ble_eq_true_of_le h⟩
     -- the step, here
     have hqc : QC xs (st i) τ := by
       have hop' : ∀ x ∈ xs, τ.op x = (st i).op x := fun x hx => op_same fun t ht => by
         subst ht
         have hwr : ∀ j o', l0[j]? = some o' → o'.dst = some t → (listed.getD j false = true ↔ j < i) := fun j o' hj hdst =>
           hp.reads (D := fun j => listed.getD j false) ho' hxs hDi hready hdown hx hj hdst
         by_cases hex : ∃ (j : Nat) (o' : Oper), l0[j]? = some o' ∧ o'.dst = some t ∧ j < i
         · obtain ⟨j, o', hj, hdst, hji⟩ := hex
           rw [hA.hit j o' hj ((hwr j o' hj hdst).2 hji) t hdst, hAi.hit j o' hj ((hblt j).2 hji) t hdst]
         · rw [hA.miss t fun j o' hj hDj hdst => hex ⟨j, o', hj, hdst, (hwr j o' hj hdst).1 hDj⟩, hAi.miss t fun j o' hj hDj hdst => hex ⟨j, o', hj, hdst, (hblt j).1 hDj⟩]
       refine ⟨⟨fun r h1 h2 => ?_, fun r h1 h2 => ?_⟩, fun x hx => ⟨hop' x hx, ?_⟩, fun b c hc => ?_⟩
       · by_cases hex : ∃ (j : Nat) (o' : Oper), l0[j]? = some o' ∧ base + 256 * j ≤ r ∧ r < base + 256 * j + 256
         · obtain ⟨j, o', hj, g1, g2⟩ := hex
           have hnone := h0.brange (r := r) (by omega)
           have hin : listed.getD j false = true := by
             cases hj2 : listed.getD j false with
             | true => rfl
             | false =>
               exfalso
               rw [hA.bold r fun j' o2 hj' hDj' hh => ?_, hnone] at h1
               · cases h1
               · have : j' = j := by omega
                 subst this
                 have hDj'' : listed.getD j' false = true := hDj'
                 rw [hj2] at hDj''; cases hDj''
           have hin2 : j < i := by
             apply Classical.byContradiction
             intro hge
             rw [hAi.bold r fun j' o2 hj' hDj' hh => ?_, hnone] at h2
             · cases h2
             · have : j' = j := by omega
               subst this
               exact hge ((hblt j').1 hDj')
           rw [hA.bmade j o' hj hin r g1 g2, hAi.bmade j o' hj ((hblt j).2 hin2) r g1 g2]
         · rw [hA.bold r fun j o' hj _ hh => hex ⟨j, o', hj, hh⟩, hAi.bold r fun j o' hj _ hh => hex ⟨j, o', hj, hh⟩]
       · by_cases hex : ∃ (j : Nat) (o' : Oper), l0[j]? = some o' ∧ base + 256 * j ≤ r ∧ r < base + 256 * j + 256
         · obtain ⟨j, o', hj, g1, g2⟩ := hex
           have hnone := h0.range (r := r) (by omega)
           have hin : listed.getD j false = true := by
             cases hj2 : listed.getD j false with
             | true => rfl
             | false =>
               exfalso
               rw [hA.old r fun j' o2 hj' hDj' hh => ?_, hnone] at h1
               · cases h1
               · have : j' = j := by omega
                 subst this
                 have hDj'' : listed.getD j' false = true := hDj'
                 rw [hj2] at hDj''; cases hDj''
           have hin2 : j < i := by
             apply Classical.byContradiction
             intro hge
             rw [hAi.old r fun j' o2 hj' hDj' hh => ?_, hnone] at h2
             · cases h2
             · have : j' = j := by omega
               subst this
               exact hge ((hblt j').1 hDj')
           rw [hA.made j o' hj hin r g1 g2, hAi.made j o' hj ((hblt j).2 hin2) r g1 g2]
         · rw [hA.old r fun j o' hj _ hh => hex ⟨j, o', hj, hh⟩, hAi.old r fun j o' hj _ hh => hex ⟨j, o', hj, hh⟩]
       · rw [← hop' x hx]
         exact slotN_of (op_ok hR x)
       · obtain ⟨t, cur, _, _, b3, _⟩ := hR.boxes b c hc
         exact leafsN_of b3
     have hfresh : ∀ q ∈ nr i, look τ.regs q.1 = none := fun q hq => by
       have hk := hkeys q hq
       rw [hA.old q.1 fun j o' hj hDj hh => ?_]
       · exact h0.range (by omega)
       · have : j = i := by omega
         subst this
         have hDj' : listed.getD j false = true := hDj
         rw [hDi] at hDj'; cases hDj'
     have hbfresh : ∀ q ∈ nb i, look τ.boxes q.1 = none := fun q hq => by
       have hk := hbkeys q hq
       rw [hA.bold q.1 fun j o' hj hDj hh => ?_]
       · exact h0.brange (by omega)
       · have : j = i := by omega
         subst this
         have hDj' : listed.getD j false = true := hDj
         rw [hDi] at hDj'; cases hDj'
     have hD' : ∀ j, (listed.setIfInBounds i true).getD j false = true ↔ (j = i ∨ listed.getD j false = true) := fun j => by
       simp only [Array.getD_eq_getD_getElem?, Array.getElem?_setIfInBounds]
       by_cases e : i = j
       · subst e
         simp [hlt']
       · simp [e, Ne.symm e, fun h => e (Eq.symm h)]
     -- the guard, as it is here
     have hruns : ∀ b, runs ops.toList (st i) o = some b → Region.wanted o (yielded ops a.tmps) = b := fun b hb => by
       unfold runs at hb
       cases hg : o.guard with
       | none =>
         rw [hg] at hb
         injection hb with hb
         subst hb
         simp [Region.wanted, hg]
       | some p =>
         obtain ⟨j, want⟩ := p
         rw [hg] at hb
         simp only at hb
         cases hj : (nth? ops.toList j).bind (·.dst) with
         | none => rw [hj] at hb; cases hb
         | some g =>
           rw [hj] at hb
           simp only at hb
           obtain ⟨oj, hoj, hgj⟩ := Option.bind_eq_some_iff.1 hj
           obtain ⟨e, he, hbi, hon⟩ := waits_of (hguard j want hg)
           have hji : j < i := by have := hafter e he hbi; omega
           have hoj' : l0[j]? = some oj := by
             have h1 : l0[j]? = some l0[j] := List.getElem?_eq_getElem (by omega)
             have h2 := hpre _ _ h1
             rw [nth?_get hoj] at h2
             rw [h1, h2]
           have hDj : listed.getD j false = true := by have := hready e he hbi; rwa [hon] at this
           have hsame : nth (.cell .junk) τ.slots g = nth (.cell .junk) (st i).slots g := by
             rw [hA.hit j oj hoj' hDj g hgj, hAi.hit j oj hoj' ((hblt j).2 hji) g hgj]
           have hslot := hR.slots g
           rw [hsame] at hslot
           split at hb
           · next b0 hb0 =>
             rw [hb0] at hslot
             simp only [slotR, leafR] at hslot
             have hy := yielded_of hj hslot
             injection hb with hb
             subst hb
             simp only [Region.wanted, hg, hy]
             cases b0 <;> cases want <;> rfl
           · next hb0 =>
             rw [hb0] at hslot
             have hy := yielded_undef hj (undef_of hslot)
             injection hb with hb
             subst hb
             simp [Region.wanted, hg, hy]
           · cases hb
     have hXo : ∀ i, o.dst = some i → F.free i := hX o (List.mem_of_getElem? (hpre _ _ ho'))
     -- on with the others
     have on : ∀ (a' : Act) (w' : World), Ok F ((τ.plusB (nr i) (nb i)).setSlot o.dst (s i)) a' w' → wpAny P .any ops Q fuel (listed.setIfInBounds i true) a' w' := fun a' w' hok' => by
       refine ih (listed.setIfInBounds i true) _ w' _ (by simp [hsz]) ?_ (fun j hj => ?_) (hA.step h0 ho' hDi hD') hok' ?_
       · have := left_set (D := fun j => listed.getD j false) (D' := fun j => (listed.setIfInBounds i true).getD j false) (i := i) hDi hD' (n := l0.length) (by omega)
         omega
       · cases hx : (listed.setIfInBounds i true).getD j false with
         | false => rfl
         | true =>
           rcases (hD' j).1 hx with rfl | h2
           · omega
           · rw [hno j hj] at h2; cases h2
       · intro j o' hj hDj e he hb
         rcases (hD' j).1 hDj with rfl | hDj'
         · rw [ho'] at hj
           injection hj with hj
           subst hj
           exact (hD' _).2 (.inr (hready e he hb))
         · exact (hD' _).2 (.inr (hdown j o' hj hDj' e he hb))
     refine ⟨o, ho, ho', ?_⟩
     rcases hcase with ⟨hr, ⟨hnr, hnb⟩, hs⟩ | ⟨hr, s0, ps, hps, hsay, _, hstep, htrans⟩
     · refine .inl ⟨hruns _ hr, on _ _ ⟨G, ?_, hd.put hXo _⟩⟩
       rw [put_tmps, hnr, hnb, hs]
       exact hR.setSlot (Like.refl w) slotR_undef
     · have hst2 := htrans xs hxs τ hqc hfresh hbfresh
       refine .inr ⟨hruns _ hr, opOk_mono (step_ok (drawEnv_ok hE o.op) (drawEnv_cts hC o.op) hR hst2 hps) fun v w' ⟨G', hR'⟩ => on _ w' ⟨G', ?_, hd.put hXo v⟩, _, _, _, hst2⟩
       exact says_rel hR' hsay
    by_cases hmain : ∀ i, i < l0.length → L i = false → listed.getD i false = true
    · -- those that are late come first
      obtain ⟨i, hil, hiun, hbelow⟩ : ∃ i, i < l0.length ∧ listed.getD i false = false ∧ ∀ j, j < i → listed.getD j false = true := by
        have key : ∀ n, n ≤ l0.length → (∀ j, j < n → listed.getD j false = true) ∨ ∃ i, i < l0.length ∧ listed.getD i false = false ∧ ∀ j, j < i → listed.getD j false = true := by
          intro n
          induction n with
          | zero => exact fun _ => .inl fun j hj => by omega
          | succ n ihn =>
            intro hn
            rcases ihn (by omega) with h1 | h1
            · cases hb : listed.getD n false with
              | true =>
                exact .inl fun j hj => by
                  rcases Nat.lt_or_ge j n with h2 | h2
                  · exact h1 j h2
                  · have : j = n := by omega
                    rw [this]; exact hb
              | false => exact .inr ⟨n, by omega, hb, h1⟩
            · exact .inr h1
        exact (key l0.length (Nat.le_refl _)).resolve_left fun h => hall h
      have hio : l0[i]? = some l0[i] := List.getElem?_eq_getElem hil
      have hmem : i ∈ Region.ready .any ops listed := mem_ready.2 ⟨by
        rw [Array.getD_eq_getD_getElem?] at hiun ⊢
        have hlt : i < listed.size := by omega
        rw [Array.getElem?_eq_getElem hlt] at hiun ⊢
        simpa using hiun, l0[i], by rw [← Array.getElem?_toList]; exact hpre _ _ hio, fun e he hb => hbelow _ ((hp.at_ i _ hio).2.2 e he hb)⟩
      obtain ⟨o, ho, ho', hb⟩ := body i hmem hil
      have hrdy : ∀ e ∈ o.after, Region.binds .any e = true → listed.getD e.on false = true := fun e he hb => hbelow _ ((hp.at_ i _ ho').2.2 e he hb)
      have hLi : L i = true := by
        cases hl : L i with
        | true => rfl
        | false => rw [hmain i hil hl] at hiun; cases hiun
      obtain ⟨hlo, W, w1, w2, w3, w4⟩ := hfl i o ho' hLi
      have hg : o.guard = none := by
        unfold lateOp at hlo
        split at hlo
        · next h1 _ => exact h1
        · cases hlo
      rcases hb with ⟨hw, _⟩ | ⟨hw, hop, id', ps', σ1, hst⟩
      · rw [wanted_none hg] at hw; cases hw
      · obtain ⟨G, hR, hd⟩ := hok
        obtain ⟨_, ⟨d, hd'⟩, v, hv, hpure⟩ := late_run hE hR hlo hst
        have H : wpAny P .any ops Q fuel (listed.setIfInBounds i true) (a.put o.dst v) w := by
          unfold OpOk at hop
          rw [hv w (Old.refl w)] at hop
          exact hop
        have hB : ∀ j oj, ops[j]? = some oj → j ≠ i → ¬ W j → ¬ (listed.getD j false = true) → (isLoad o = false ∨ calmOp oj.op = true) ∧ toldOp oj.op = true ∧ oj.guard = none ∧ d ∉ tmpsOf oj ∧ oj.dst ≠ some d ∧ ∀ d', oj.dst = some d' → d' ∉ tmpsOf o := fun j oj hj hne hnW hnB => w4 j oj d hj hd' hne hnW (fun e he hb hon => hnB (hon ▸ hrdy e he hb)) fun hlt => by
          cases hl : L j with
          | true => rfl
          | false => exact absurd (hmain j hlt hl) hnB
        have hWu : ∀ j, W j → listed.getD j false = false := fun j hj => by
          cases hb : listed.getD j false with
          | false => rfl
          | true =>
            rcases Nat.lt_or_ge j l0.length with h1 | h1
            · obtain ⟨oj, hj', e, he, hbi, hon⟩ := w3 j hj h1
              have := hdown j oj hj' hb e he hbi
              rw [hon, hiun] at this
              cases this
            · rw [hno j h1] at hb; cases hb
        have hsel : ∀ cs b, o.op ≠ .select cs b := fun cs b e => by
          unfold lateOp at hlo
          rw [e] at hlo
          split at hlo <;> simp_all
        cases hld : isLoad o with
        | true =>
          refine firstW hP (W := W) (B := fun j => listed.getD j false = true) (w0 := w) (fun j o2 cs b hj hc e => ?_) ho hg hd' w2 (fun j oj hj hne hnW hnB => ?_) fuel listed a w hWu (fun j hj => hj) hmem hv (Old.refl w) H
          · rcases hc with hc | rfl
            · rw [e] at hc; cases hc
            · rw [ho] at hj
              injection hj with hj
              subst hj
              exact hsel cs b e
          · obtain ⟨h1, _, h2⟩ := hB j oj hj hne hnW hnB
            exact ⟨h1.resolve_left (by rw [hld]; simp), h2⟩
        | false =>
          refine firstP (W := W) (B := fun j => listed.getD j false = true) hsel hP ho w2 (fun j oj hj hne hnW hnB => ?_) fuel listed a w hWu (fun j hj => hj) hmem (.inl ⟨wanted_none hg _, fun w' => hpure hld w'⟩) H
          obtain ⟨_, h0, h1, h2, h3, h4⟩ := hB j oj hj hne hnW hnB
          refine ⟨?_, fun cs b e => by rw [e] at h0; cases h0⟩
          unfold Oper.apart
          rw [hd', looksAt_of h1, looksAt_of hg]
          simp only [Bool.and_eq_true, Bool.not_eq_true', bne_iff_ne, ne_eq]
          refine ⟨⟨by simpa using h2, h3⟩, ?_⟩
          cases hdj : oj.dst with
          | none => rfl
          | some d' => simpa using h4 d' hdj
    · refine ⟨fun hr => absurd (none_ready listed hsz hr) hall, fun i hi => ?_⟩
      obtain ⟨_, o0, ho0, hready0⟩ := mem_ready.1 hi
      have hil : i < l0.length := by
        apply Classical.byContradiction
        intro hge
        exact hmain (hbig i o0 (by rw [Array.getElem?_toList]; exact ho0) (by omega) listed hready0 hdown hno)
      obtain ⟨o, ho, ho', hb⟩ := body i hi hil
      unfold wpOp
      rw [ho]
      simp only
      rcases hb with ⟨hw, h⟩ | ⟨hw, hop, _⟩
      · rw [if_neg (by simp [hw])]; exact h
      · rw [if_pos hw]
        left
        exact hop.wp fun v w' h => h

theorem tk_take {α : Type} : ∀ (n : Nat) (l : List α), tk n l = l.take n
  | 0, l => by simp [tk]
  | n + 1, [] => by simp [tk]
  | n + 1, a :: l => by simp [tk, tk_take n l]
theorem chain_at : ∀ {l : List Oper} {i : Nat}, chainB i l = true → ∀ (m : Nat) (o : Oper), l[m]? = some o → aloneB (i + m) o = true ∧ (0 < m → waitsB o (i + m - 1) = true)
  | [], i, _, m, o, h => by simp at h
  | o :: r, i, hc, 0, o', h => by
    simp only [chainB, Bool.and_eq_true] at hc
    have : o = o' := by simpa using h
    subst this
    exact ⟨hc.1.1, fun h => by omega⟩
  | o :: r, i, hc, m + 1, o', h => by
    simp only [chainB, Bool.and_eq_true] at hc
    obtain ⟨⟨_, h2⟩, h3⟩ := hc
    have h' : r[m]? = some o' := by simpa using h
    have ih := chain_at h3 m o' h'
    rw [show i + 1 + m = i + (m + 1) by omega] at ih
    refine ⟨ih.1, fun _ => ?_⟩
    cases m with
    | zero =>
      cases r with
      | nil => simp at h'
      | cons o2 r =>
        have : o2 = o' := by simpa using h'
        subst this
        simpa using h2
    | succ m => exact ih.2 (by omega)
theorem alone_of {i : Nat} {o : Oper} (h : aloneB i o = true) : o.guard = none ∧ ∀ e ∈ o.after, Region.binds .any e = true → e.on < i := by
  simp only [aloneB, Bool.and_eq_true] at h
  refine ⟨?_, fun e he hb => ?_⟩
  · cases hg : o.guard with
    | none => rfl
    | some _ => rw [hg] at h; cases h.1
  · have := allB_all h.2 (Array.mem_toList_iff.2 he)
    rw [hb] at this
    have := Nat.le_of_ble_eq_true (by simpa using this : Nat.ble (e.on + 1) i = true)
    omega
theorem getD_tf {l : Array Bool} {j : Nat} (hj : j < l.size) : l.getD j true = l.getD j false := by
  simp only [Array.getD_eq_getD_getElem?, Array.getElem?_eq_getElem hj, Option.getD_some]
theorem tail_ok (hE : EnvOk P E) (hC : EnvCts P E F.w0 F.n0) {ops : Array Oper} (hX : ∀ o ∈ ops.toList, ∀ i, o.dst = some i → F.free i) {Q : Exit → Act → World → Prop} {K : St → Prop} {D0 : List Nat} (hD0 : ∀ o ∈ ops.toList, ∀ d, o.dst = some d → d ∈ D0)
    (hK : ∀ σ' a' w', K σ' → Ok F σ' a' w' → Ext D0 σ σ' → Q .normal a' w') :
    ∀ (n fuel i id : Nat) (listed : Array Bool) (a : Act) (w : World) (τ : St), ops.size - i = n → n ≤ fuel → listed.size = ops.size → (∀ j, j < i → listed.getD j false = true) → (∀ j, i ≤ j → listed.getD j false = false) →
      i ≤ ops.size → chainB i (dp ops.toList i) = true → Ok F τ a w → Ext D0 σ τ → evalSeq E (dp ops.toList i) id τ K → wpAny P .any ops Q fuel listed a w := by
  have hlen : ops.toList.length = ops.size := Array.length_toList
  intro n
  induction n with
  | zero =>
    intro fuel i id listed a w τ hn hf hsz hlo hhi hi hch hok hext hs
    have hnil : dp ops.toList i = [] := by rw [dp_drop]; exact List.drop_eq_nil_of_le (by omega)
    rw [hnil] at hs
    have hq : Q .normal a w := hK τ a w hs hok hext
    have hr : Region.ready .any ops listed = [] := by
      apply List.eq_nil_iff_forall_not_mem.2
      intro j hj
      obtain ⟨h1, o, ho, _⟩ := mem_ready.1 hj
      have hlt : j < ops.size := (Array.getElem?_eq_some_iff.1 ho).1
      rw [getD_tf (by omega), hlo j (by omega)] at h1
      cases h1
    cases fuel with
    | zero => exact ⟨hr, hq⟩
    | succ fuel => exact ⟨fun _ => hq, fun j hj => by rw [hr] at hj; cases hj⟩
  | succ n ih =>
    intro fuel i id listed a w τ hn hf hsz hlo hhi hi hch hok hext hs
    cases fuel with
    | zero => omega
    | succ fuel =>
      have hlt : i < ops.toList.length := by omega
      have hio : ops.toList[i]? = some ops.toList[i] := List.getElem?_eq_getElem hlt
      have hcons : dp ops.toList i = ops.toList[i] :: dp ops.toList (i + 1) := by
        rw [dp_drop, dp_drop]
        exact List.drop_eq_getElem_cons hlt
      have hat := chain_at hch
      have hat' : ∀ (j : Nat) (o : Oper), i ≤ j → ops.toList[j]? = some o → aloneB j o = true ∧ (i < j → waitsB o (j - 1) = true) := fun j o hj ho => by
        have := hat (j - i) o (by rw [dp_drop, List.getElem?_drop, show i + (j - i) = j by omega]; exact ho)
        rw [show i + (j - i) = j by omega] at this
        exact ⟨this.1, fun h => this.2 (by omega)⟩
      obtain ⟨hg, hdeps⟩ := alone_of (hat' i _ (Nat.le_refl _) hio).1
      have hmem : i ∈ Region.ready .any ops listed := mem_ready.2 ⟨by rw [getD_tf (by omega), hhi i (Nat.le_refl _)], ops.toList[i], by rw [← Array.getElem?_toList]; exact hio, fun e he hb => hlo _ (hdeps e he hb)⟩
      refine ⟨fun hr => (by rw [hr] at hmem; cases hmem), fun j hj => ?_⟩
      obtain ⟨h1, o, ho, hready⟩ := mem_ready.1 hj
      have ho' : ops.toList[j]? = some o := by rw [Array.getElem?_toList]; exact ho
      have hjl : j < ops.size := (Array.getElem?_eq_some_iff.1 ho).1
      rw [getD_tf (by omega)] at h1
      have hge : i ≤ j := by
        apply Classical.byContradiction
        intro h
        rw [hlo j (by omega)] at h1; cases h1
      have hji : j = i := by
        apply Classical.byContradiction
        intro hne
        obtain ⟨e, he, hb, hon⟩ := waits_of ((hat' j o hge ho').2 (by omega))
        have := hready e he hb
        rw [hon, hhi (j - 1) (by omega)] at this
        cases this
      subst hji
      have hoe : ops.toList[j] = o := by rw [hio] at ho'; exact Option.some.inj ho'
      rw [hcons, hoe] at hs
      rw [hoe] at hg
      unfold wpOp
      rw [ho]
      simp only
      rw [if_pos (by simp [Region.wanted, hg])]
      left
      refine stepK_ok hE hC (hX o (List.mem_of_getElem? ho')) hok (show stepK E τ id o (fun σ' => evalSeq E (dp ops.toList (j + 1)) (id + 256) σ' K) from hs) fun σ' a' w' hk hok' hext' => ?_
      refine ih fuel (j + 1) (id + 256) _ a' w' σ' (by omega) (by omega) (by simp [hsz]) (fun m hm => ?_) (fun m hm => ?_) (by omega) ?_ hok' (hext.trans (hext'.mono fun d hd => hD0 o (List.mem_of_getElem? ho') d (by simpa using hd))) hk
      · simp only [Array.getD_eq_getD_getElem?, Array.getElem?_setIfInBounds]
        by_cases e : j = m
        · subst e
          have : j < listed.size := by omega
          simp [this]
        · rw [if_neg e]
          have := hlo m (by omega)
          rwa [Array.getD_eq_getD_getElem?] at this
      · simp only [Array.getD_eq_getD_getElem?, Array.getElem?_setIfInBounds]
        rw [if_neg (by omega)]
        have := hhi m (by omega)
        rwa [Array.getD_eq_getD_getElem?] at this
      · rw [hcons] at hch
        simp only [chainB, Bool.and_eq_true] at hch
        exact hch.2

theorem ext_reslot {D : List Nat} {d : Option Nat} {s0 s1 : Slot} (h : Ext d.toList σ (τ.setSlot d s0)) : Ext d.toList σ (τ.setSlot d s1) := by
  cases d with
  | none => exact h
  | some d =>
    have h2 : Ext (some d).toList (τ.setSlot (some d) s0) ((τ.setSlot (some d) s0).setSlot (some d) s1) := Ext.setSlot fun i hi => by simpa using hi.symm
    rw [setSlot_setSlot] at h2
    exact h.trans h2
theorem anyCov_of {j : Nat} : ∀ {r : List Oper} {c : List Bool}, anyCov j r c = true → ∃ (m : Nat) (o : Oper), r[m]? = some o ∧ c[m]? = some true ∧ waitsB o j = true
  | [], _, h => by simp [anyCov] at h
  | _ :: _, [], h => by simp [anyCov] at h
  | o :: r, b :: c, h => by
    simp only [anyCov, Bool.or_eq_true, Bool.and_eq_true] at h
    rcases h with ⟨h1, h2⟩ | h
    · exact ⟨0, o, rfl, by simp [h1], h2⟩
    · obtain ⟨m, o', h1, h2, h3⟩ := anyCov_of h
      exact ⟨m + 1, o', by simpa using h1, by simpa using h2, h3⟩
theorem covL_length : ∀ {l : List Oper} {j0 : Nat} {o : Oper}, (covL j0 l o).length = l.length
  | [], _, _ => rfl
  | _ :: r, j0, o => by simp [covL, covL_length (l := r)]
theorem cover_at : ∀ {l : List Oper} {j0 : Nat} {o : Oper} (m : Nat), (covL j0 l o)[m]? = some true → (∃ m' o', m < m' ∧ l[m']? = some o' ∧ (covL j0 l o)[m']? = some true ∧ waitsB o' (j0 + m) = true) ∨ waitsB o (j0 + m) = true
  | [], j0, o, m, h => by simp [covL] at h
  | x :: r, j0, o, 0, h => by
    simp only [covL, List.getElem?_cons_zero, Option.some.injEq, Bool.or_eq_true] at h
    rcases h with h1 | h1
    · exact .inr (by simpa using h1)
    · obtain ⟨m', o', h2, h3, h4⟩ := anyCov_of h1
      exact .inl ⟨m' + 1, o', by omega, by simpa using h2, by simpa [covL] using h3, by simpa using h4⟩
  | x :: r, j0, o, m + 1, h => by
    have h' : (covL (j0 + 1) r o)[m]? = some true := by simpa [covL] using h
    rcases cover_at m h' with ⟨m', o', h1, h2, h3, h4⟩ | h3
    · exact .inl ⟨m' + 1, o', by omega, by simpa using h2, by simpa [covL] using h3, by rwa [show j0 + (m + 1) = j0 + 1 + m by omega]⟩
    · exact .inr (by rwa [show j0 + (m + 1) = j0 + 1 + m by omega])
theorem lates_iff : ∀ {l : List Oper} {c : List Bool} {j0 : Nat} {x : Nat × Oper}, c.length = l.length → (x ∈ latesL j0 l c ↔ ∃ m, x.1 = j0 + m ∧ l[m]? = some x.2 ∧ c[m]? = some false)
  | [], c, j0, x, hl => by
    constructor
    · intro h; cases c <;> simp [latesL] at h
    · rintro ⟨m, _, h, _⟩; simp at h
  | o :: r, [], j0, x, hl => by simp at hl
  | o :: r, b :: c, j0, x, hl => by
    have ih := lates_iff (l := r) (c := c) (j0 := j0 + 1) (x := x) (by simpa using hl)
    have hrest : (∃ m, x.1 = j0 + 1 + m ∧ r[m]? = some x.2 ∧ c[m]? = some false) → ∃ m, x.1 = j0 + m ∧ (o :: r)[m]? = some x.2 ∧ (b :: c)[m]? = some false := fun ⟨m, h1, h2, h3⟩ => ⟨m + 1, by omega, by simpa using h2, by simpa using h3⟩
    cases b with
    | true =>
      simp only [latesL, cond_true]
      rw [ih]
      refine ⟨hrest, ?_⟩
      rintro ⟨m, h1, h2, h3⟩
      cases m with
      | zero => simp at h3
      | succ m => exact ⟨m, by omega, by simpa using h2, by simpa using h3⟩
    | false =>
      simp only [latesL, cond_false, List.mem_cons]
      rw [ih]
      constructor
      · rintro (rfl | h)
        · exact ⟨0, rfl, rfl, rfl⟩
        · exact hrest h
      · rintro ⟨m, h1, h2, h3⟩
        cases m with
        | zero =>
          left
          have h2 : o = x.2 := by simpa using h2
          exact Prod.ext h1 h2.symm
        | succ m => exact .inr ⟨m, by omega, by simpa using h2, by simpa using h3⟩
theorem placed_mem : ∀ {l : List Oper} {j0 m : Nat} {o : Oper}, l[m]? = some o → (j0 + m, o) ∈ placed j0 l
  | [], _, _, _, h => by simp at h
  | x :: r, j0, 0, o, h => by
    have : x = o := by simpa using h
    subst this
    simp [placed]
  | x :: r, j0, m + 1, o, h => by
    have := placed_mem (j0 := j0 + 1) (show r[m]? = some o by simpa using h)
    rw [show j0 + 1 + m = j0 + (m + 1) by omega] at this
    exact List.mem_cons_of_mem _ this
theorem nMid_at {b : Bool} : ∀ {r : List Oper} {m : Nat}, m < nMid b r → ∃ o, r[m]? = some o
  | [], m, h => by simp [nMid] at h
  | o :: r, 0, h => ⟨o, rfl⟩
  | o :: r, m + 1, h => by
    unfold nMid at h
    have h' : m < nMid b r := by
      split at h
      · omega
      · omega
      · cases b with
        | true => simp only [cond_true] at h; omega
        | false => simp only [cond_false] at h; omega
      · omega
    obtain ⟨o', h1⟩ := nMid_at h'
    exact ⟨o', by simpa using h1⟩
theorem reads_tmps {o : Oper} {d : Nat} (hk : toldOp o.op = true) (h : reads2 o d = false) : d ∉ tmpsOf o := by
  unfold tmpsOf Oper.looksAt
  simp only [List.append_nil, List.mem_filterMap, not_exists, not_and]
  intro x hx hxd
  have hx' : x = .tmp d := by
    cases x <;> simp at hxd
    exact congrArg Operand.tmp hxd
  subst hx'
  unfold reads2 at h
  have fin : ∀ xs, opnds2 o.op = some xs → Operand.tmp d ∈ xs → False := fun xs ho hm => by
    rw [ho] at h
    simp only at h
    have := anyB_mem_false h hm
    simp only at this
    rw [Nat.beq_refl] at this
    cases this
  cases hop : o.op with
  | move y =>
    rw [hop] at hx
    have : Operand.tmp d = y := by simpa [Op.operands] using hx
    exact fin [y] (by rw [hop]; rfl) (by simp [this])
  | extract y n =>
    rw [hop] at hx
    have : Operand.tmp d = y := by simpa [Op.operands] using hx
    exact fin [y] (by rw [hop]; rfl) (by simp [this])
  | store t y z =>
    rw [hop] at hx
    have : Operand.tmp d = y ∨ Operand.tmp d = z := by simpa [Op.operands] using hx
    exact fin [y, z] (by rw [hop]; rfl) (by simpa using this)
  | buildSlice t n ps =>
    rw [hop] at hx
    refine fin (mp (fun p => p.2) ps.toList) (by rw [hop]; rfl) ?_
    rw [mp_map]
    simpa [Op.operands] using hx
  | fieldAddr t y f =>
    rw [hop] at hx
    have : Operand.tmp d = y := by simpa [Op.operands] using hx
    exact fin [y] (by rw [hop]; rfl) (by simp [this])
  | load t y =>
    rw [hop] at hx
    have : Operand.tmp d = y := by simpa [Op.operands] using hx
    exact fin [y] (by rw [hop]; rfl) (by simp [this])
  | _ => rw [hop] at hk; cases hk
theorem late_told {o : Oper} (h : lateOp E o = true) : toldOp o.op = true := by
  unfold lateOp at h
  split at h
  · cases hop : o.op <;> rw [hop] at h <;> first | rfl | cases h
  · cases h
theorem apart_of {x y : Oper} {d : Nat} (h : apartB x y = true) (hd : x.dst = some d) (hx : lateOp E x = true) : toldOp y.op = true ∧ y.guard = none ∧ d ∉ tmpsOf y ∧ y.dst ≠ some d ∧ ∀ d', y.dst = some d' → d' ∉ tmpsOf x := by
  unfold apartB dstNe at h
  rw [hd] at h
  simp only [Bool.and_eq_true, Bool.not_eq_true'] at h
  obtain ⟨⟨⟨h0, hg⟩, h1, h2⟩, h3⟩ := h
  refine ⟨h0, ?_, reads_tmps h0 h1, fun e => ?_, fun d' hd' => reads_tmps (late_told hx) (by rw [hd'] at h2; simpa using h2)⟩
  · cases hgg : y.guard with
    | none => rfl
    | some _ => rw [hgg] at hg; cases hg
  · rw [e] at h3
    simp [Nat.beq_refl] at h3

theorem draw_any0 (hE : EnvOk P E) (hC : EnvCts P E F.w0 F.n0) {b0 : Bool} {ops : Array Oper} {k0 : Nat} (hk0l : k0 ≤ ops.toList.length) (hX : ∀ d ∈ dstsOps ops.toList, F.free d) {Q : Exit → Act → World → Prop} (hP : ∀ c a w, ¬ Q (.panic c) a w) {K : St → Prop} (h : Ok F σ a w) (hd : drawAt E b0 ops.toList k0 = true) (hk : allB (fun q : Nat × Option Reg => Nat.ble (Nat.succ q.1) base) σ.regs = true) (hkb : allB (fun q : Nat × List Leaf => Nat.ble (Nat.succ q.1) base) σ.boxes = true)
    (hs : evalDraw E ops.toList (tk k0 ops.toList) 0 base σ fun σ' => evalSeq E (dp ops.toList k0) (base + 256 * k0) σ' K)
    (hK : ∀ σ' a' w', K σ' → Ok F σ' a' w' → Ext (dstsOps ops.toList) σ σ' → Q .normal a' w') : wpAny P .any ops Q ops.size (Array.replicate ops.size false) a { w with drawn := w.drawn + 1 } := by
  have hX' : ∀ o ∈ ops.toList, ∀ i, o.dst = some i → F.free i := fun o ho i hi => hX i (dstsOps_mem ho i hi)
  unfold drawAt at hd
  simp only [Bool.and_eq_true] at hd
  obtain ⟨hd, htl⟩ := hd
  generalize hl0 : tk k0 ops.toList = l0 at hd htl hs
  have hl0' : l0 = ops.toList.take k0 := by rw [← hl0, tk_take]
  have hl0len : l0.length = k0 := by rw [hl0', List.length_take]; omega
  have hpre : ∀ (j : Nat) (o : Oper), l0[j]? = some o → ops.toList[j]? = some o := fun j o hj => by
    rw [hl0', List.getElem?_take] at hj
    split at hj
    · exact hj
    · cases hj
  have hp := pairs_of hd
  obtain ⟨st, nr, nb, s, e0, hKn, hall⟩ := chain (fun o ho => by
    obtain ⟨k, hk⟩ := List.mem_iff_getElem?.1 ho
    exact (hp.at_ k o hk).2.1) hs
  have h0 : Reg0 base l0 nr nb σ := ⟨hp.dst, fun j o hj => (hall j o hj).2.1.1, fun r hr => by
    cases hl : look σ.regs r with
    | none => rw [hl] at hr; cases hr
    | some x =>
      have := drawList_ok.allB_mem' hk (key hl)
      exact Nat.le_of_ble_eq_true this, fun j o hj => (hall j o hj).2.1.2, fun r hr => by
    cases hl : look σ.boxes r with
    | none => rw [hl] at hr; cases hr
    | some x =>
      have := drawList_ok.allB_mem' hkb (key hl)
      exact Nat.le_of_ble_eq_true this⟩
  have hst : ∀ k, k ≤ l0.length → At base l0 nr nb s σ (fun j => Nat.blt j k) (st k) ∧ Ext (dstsOps ops.toList) σ (st k) := by
    intro k
    induction k with
    | zero =>
      intro _
      rw [e0]
      exact ⟨At.start, Ext.refl _ _⟩
    | succ k ih =>
      intro hk
      obtain ⟨h1, h2⟩ := ih (by omega)
      have hok : l0[k]? = some l0[k] := List.getElem?_eq_getElem (by omega)
      obtain ⟨en, _, hcase⟩ := hall k _ hok
      refine ⟨?_, h2.trans (Ext.mono (D := l0[k].dst.toList) ?_ fun i hi => dstsOps_mem (List.mem_of_getElem? (hpre _ _ hok)) i (by simpa using hi))⟩
      rotate_left
      · rcases hcase with ⟨_, ⟨hnr, hnb⟩, hs⟩ | ⟨_, s0, ps, _, _, _, hstep, _⟩
        · rw [en, hnr, hnb, hs]
          exact Ext.setSlot fun i hi => by rw [hi]; exact List.mem_cons_self
        · have h3 := ext_step hstep
          rw [en]
          exact ext_reslot (D := []) h3
      rw [en]
      refine h1.step h0 hok ?_ fun j => ?_
      · cases hb : Nat.blt k k with
        | false => rfl
        | true => have : k + 1 ≤ k := Nat.le_of_ble_eq_true hb; omega
      · constructor
        · intro hb
          have : j + 1 ≤ k + 1 := Nat.le_of_ble_eq_true hb
          rcases Nat.lt_or_ge j k with h | h
          · exact .inr (Nat.ble_eq_true_of_le h)
          · exact .inl (by omega)
        · rintro (rfl | hb)
          · exact Nat.ble_eq_true_of_le (Nat.le_refl _)
          · have : j + 1 ≤ k := Nat.le_of_ble_eq_true hb
            exact Nat.ble_eq_true_of_le (by omega)
  -- the tail
  unfold tailB at htl
  simp only [Bool.and_eq_true] at htl
  obtain ⟨hch, hlo⟩ := htl
  let L : Nat → Bool := fun j => anyB (fun x => Nat.beq x.1 j) (latesAt ops.toList k0)
  have hLiff : ∀ j o, l0[j]? = some o → (L j = true ↔ (j, o) ∈ latesAt ops.toList k0) := fun j o hj => by
    constructor
    · intro h
      obtain ⟨x, hx, hb⟩ := anyB_in h
      have e := beq_nat hb
      unfold latesAt at hx ⊢
      split at hx
      · cases hx
      · obtain ⟨m, h1, h2, h3⟩ := (lates_iff covL_length).1 hx
        rw [hl0] at h2
        have : m = j := by omega
        subst this
        rw [hj] at h2
        have h2 := Option.some.inj h2
        rw [show (m, o) = x from Prod.ext e.symm h2]
        exact hx
    · intro h
      exact anyB_of_mem h (Nat.beq_refl j)
  have hcons : ∀ (o : Oper), ops.toList[k0]? = some o → dp ops.toList k0 = o :: dp ops.toList (k0 + 1) := fun o ho => by
    have hlt : k0 < ops.toList.length := (List.getElem?_eq_some_iff.1 ho).1
    rw [dp_drop, dp_drop, List.drop_eq_getElem_cons hlt]
    congr 1
    rw [List.getElem?_eq_getElem hlt] at ho
    exact Option.some.inj ho
  have hchain : ∀ (i : Nat) (o : Oper), ops.toList[i]? = some o → k0 ≤ i → aloneB i o = true ∧ (k0 < i → waitsB o (i - 1) = true) := fun i o ho hi => by
    have := chain_at hch (i - k0) o (by rw [dp_drop, List.getElem?_drop, show k0 + (i - k0) = i by omega]; exact ho)
    rw [show k0 + (i - k0) = i by omega] at this
    exact ⟨this.1, fun h => this.2 (by omega)⟩
  have hbig : ∀ (i : Nat) (o : Oper), ops.toList[i]? = some o → l0.length ≤ i → ∀ listed : Array Bool, (∀ e ∈ o.after, Region.binds .any e = true → listed.getD e.on false = true) → (∀ (j : Nat) (o' : Oper), l0[j]? = some o' → listed.getD j false = true → ∀ e ∈ o'.after, Region.binds .any e = true → listed.getD e.on false = true) →
      (∀ j, l0.length ≤ j → listed.getD j false = false) → ∀ j, j < l0.length → L j = false → listed.getD j false = true := by
    intro i o ho hi listed hready hdown hno
    rw [hl0len] at hi hno
    have hat := hchain i o ho hi
    have hik : i = k0 := by
      apply Classical.byContradiction
      intro hne
      obtain ⟨e, he, hb, hon⟩ := waits_of (hat.2 (by omega))
      have := hready e he hb
      rw [hon, hno (i - 1) (by omega)] at this
      cases this
    subst hik
    have hc := hcons o ho
    -- who is no late one, is waited for
    have hcov : ∀ j, j < l0.length → L j = false → (covL 0 l0 o)[j]? = some true := fun j hj hL => by
      have hjo : l0[j]? = some l0[j] := List.getElem?_eq_getElem hj
      cases hcj : (covL 0 l0 o)[j]? with
      | none =>
        rw [List.getElem?_eq_none_iff, covL_length] at hcj
        omega
      | some b =>
        cases b with
        | true => rfl
        | false =>
          have : L j = true := (hLiff j _ hjo).2 (by
            unfold latesAt
            rw [hc, hl0]
            exact (lates_iff covL_length).2 ⟨j, by simp, hjo, hcj⟩)
          rw [hL] at this; cases this
    -- from the last one down
    have down : ∀ (n j : Nat), j + n + 1 = l0.length → (covL 0 l0 o)[j]? = some true → listed.getD j false = true := by
      intro n
      induction n using Nat.strongRecOn with
      | _ n ih =>
        intro j hj hcj
        rcases cover_at j hcj with ⟨m', o', h1, h2, h2', h3⟩ | h3
        · rw [Nat.zero_add] at h3
          have hm' := (List.getElem?_eq_some_iff.1 h2).1
          obtain ⟨e, he, hb, hon⟩ := waits_of h3
          have hd' := ih (l0.length - 1 - m') (by omega) m' (by omega) h2'
          have := hdown m' o' h2 hd' e he hb
          rwa [hon] at this
        · rw [Nat.zero_add] at h3
          obtain ⟨e, he, hb, hon⟩ := waits_of h3
          have := hready e he hb
          rwa [hon] at this
    exact fun j hj hL => down (l0.length - 1 - j) j (by omega) (hcov j hj hL)
  have hfl : ∀ (i : Nat) (oi : Oper), l0[i]? = some oi → L i = true → lateOp E oi = true ∧ ∃ W : Nat → Prop, ¬ W i ∧ (∀ (j : Nat) (oj : Oper), W j → ops[j]? = some oj → ∃ e ∈ oj.after, Region.binds .any e = true ∧ (e.on = i ∨ W e.on)) ∧
      (∀ j, W j → j < l0.length → ∃ oj, l0[j]? = some oj ∧ ∃ e ∈ oj.after, Region.binds .any e = true ∧ e.on = i) ∧
      (∀ (j : Nat) (oj : Oper) (d : Nat), ops[j]? = some oj → oi.dst = some d → j ≠ i → ¬ W j → (∀ e ∈ oi.after, Region.binds .any e = true → e.on ≠ j) → (j < l0.length → L j = true) → (isLoad oi = false ∨ calmOp oj.op = true) ∧ toldOp oj.op = true ∧ oj.guard = none ∧ d ∉ tmpsOf oj ∧ oj.dst ≠ some d ∧ ∀ d', oj.dst = some d' → d' ∉ tmpsOf oi) := by
    intro i oi hio hLi
    have hil : i < l0.length := (List.getElem?_eq_some_iff.1 hio).1
    have hmem := (hLiff i oi hio).1 hLi
    -- what is asked of late ones
    obtain ⟨nm, hx0, hl1, hwait⟩ : ∃ nm, nm = nMid b0 (dp ops.toList k0) ∧ late0 E (latesAt ops.toList k0) (placed k0 (tk nm (dp ops.toList k0))) (i, oi) = true ∧
        (nth? (dp ops.toList k0) nm = none ∨ ∃ om, nth? (dp ops.toList k0) nm = some om ∧ (waitsB om i || anyB (fun y => waitsB y.2 i && waitsB om y.1) (latesAt ops.toList k0)) = true) := by
      unfold lateOk at hlo
      split at hlo
      · next h => rw [h] at hmem; cases hmem
      · split at hlo
        · next om h =>
          have := allB_all hlo hmem
          unfold late1 at this
          simp only [Bool.and_eq_true] at this
          exact ⟨_, rfl, this.1, .inr ⟨om, h, this.2⟩⟩
        · next h => exact ⟨_, rfl, allB_all hlo hmem, .inl h⟩
    have hnm := hx0.symm
    clear hx0
    unfold late0 at hl1
    simp only [Bool.and_eq_true] at hl1
    obtain ⟨⟨hlo1, hmid1⟩, hls1⟩ := hl1
    have hend : nth? (dp ops.toList k0) nm = none → ∀ (j : Nat) (oj : Oper), ops[j]? = some oj → ¬ k0 + nm ≤ j := fun hn j oj hj hle => by
      have hj' : ops.toList[j]? = some oj := by rw [Array.getElem?_toList]; exact hj
      have hlen : (dp ops.toList k0).length ≤ nm := nth?_none_of hn
      have := (List.getElem?_eq_some_iff.1 hj').1
      rw [dp_drop, List.length_drop] at hlen
      omega
    refine ⟨hlo1, fun j => k0 + nm ≤ j ∨ ∃ oj, l0[j]? = some oj ∧ L j = true ∧ waitsB oj i = true, ?_, ?_, ?_, ?_⟩
    · rintro (h1 | ⟨oj, h1, _, h3⟩)
      · omega
      · rw [hio] at h1
        injection h1 with h1
        subst h1
        obtain ⟨e, he, hb, hon⟩ := waits_of h3
        have := (hp.at_ i _ hio).2.2 e he hb
        omega
    · rintro j oj (h1 | ⟨oj', h1, h2, h3⟩) hj
      · have hj' : ops.toList[j]? = some oj := by rw [Array.getElem?_toList]; exact hj
        rcases Nat.lt_or_ge (k0 + nm) j with h2 | h2
        · obtain ⟨e, he, hb, hon⟩ := waits_of ((hchain j oj hj' (by omega)).2 (by omega))
          exact ⟨e, he, hb, .inr (.inl (by rw [hon]; omega))⟩
        · have : j = k0 + nm := by omega
          subst this
          obtain ⟨om, hom, hw1⟩ := hwait.resolve_left fun hn => hend hn _ oj hj (Nat.le_refl _)
          have hom' : ops.toList[k0 + nm]? = some om := by
            have := nth?_get hom
            rwa [dp_drop, List.getElem?_drop] at this
          rw [hom'] at hj'
          injection hj' with hj'
          subst hj'
          simp only [Bool.or_eq_true] at hw1
          rcases hw1 with hw1 | hw1
          · obtain ⟨e, he, hb, hon⟩ := waits_of hw1
            exact ⟨e, he, hb, .inl hon⟩
          · obtain ⟨y, hy, hyb⟩ := anyB_in hw1
            simp only [Bool.and_eq_true] at hyb
            obtain ⟨e, he, hb, hon⟩ := waits_of hyb.2
            refine ⟨e, he, hb, .inr (.inr ?_)⟩
            have hy' := hy
            unfold latesAt at hy
            split at hy
            · cases hy
            · obtain ⟨m, g1, g2, g3⟩ := (lates_iff covL_length).1 hy
              rw [hl0] at g2
              have : m = y.1 := by omega
              subst this
              rw [hon]
              exact ⟨y.2, g2, (hLiff _ _ g2).2 hy', hyb.1⟩
      · have hj' : ops.toList[j]? = some oj := by rw [Array.getElem?_toList]; exact hj
        rw [hpre _ _ h1] at hj'
        injection hj' with hj'
        subst hj'
        obtain ⟨e, he, hb, hon⟩ := waits_of h3
        exact ⟨e, he, hb, .inl hon⟩
    · rintro j (h1 | ⟨oj', h1, h2, h3⟩) hj
      · omega
      · obtain ⟨e, he, hb, hon⟩ := waits_of h3
        exact ⟨oj', h1, e, he, hb, hon⟩
    · intro j oj d hj hdi hne hnW hnd hLj
      have hj' : ops.toList[j]? = some oj := by rw [Array.getElem?_toList]; exact hj
      rcases Nat.lt_or_ge j l0.length with h1 | h1
      · have hjo : l0[j]? = some oj := by
          have h2 : l0[j]? = some l0[j] := List.getElem?_eq_getElem h1
          have h3 := hpre _ _ h2
          rw [hj'] at h3
          rw [h2, h3]
        have h4 := allB_all hls1 ((hLiff j oj hjo).1 (hLj h1))
        simp only [Bool.or_eq_true, Bool.and_eq_true] at h4
        rcases h4 with ((h4 | h4) | h4) | ⟨h4, h5⟩
        · exact absurd (beq_nat h4) hne
        · exact absurd (.inr ⟨oj, hjo, hLj h1, h4⟩) hnW
        · obtain ⟨e, he, hb, hon⟩ := waits_of h4
          exact absurd hon (hnd e he hb)
        · exact ⟨h5.imp (fun h => by simpa using h) (fun h => h), apart_of (E := E) h4 hdi hlo1⟩
      · have hlt : j - k0 < nm := by
          apply Classical.byContradiction
          intro h
          exact hnW (.inl (by omega))
        obtain ⟨o', g1⟩ := nMid_at (r := dp ops.toList k0) (m := j - k0) (by rw [hnm]; exact hlt)
        have hoj : o' = oj := by
          rw [dp_drop, List.getElem?_drop, show k0 + (j - k0) = j by omega, hj'] at g1
          exact (Option.some.inj g1).symm
        subst hoj
        have h5 := allB_all hmid1 (placed_mem (j0 := k0) (l := tk nm (dp ops.toList k0)) (m := j - k0) (o := o') (by
          rw [tk_take, List.getElem?_take, if_pos hlt]; exact g1))
        rw [show k0 + (j - k0) = j by omega] at h5
        simp only [Bool.and_eq_true, Bool.or_eq_true] at h5
        exact ⟨h5.2.imp (fun h => by simpa using h) (fun h => h), apart_of (E := E) h5.1 hdi hlo1⟩
  obtain ⟨G, hR, hdef⟩ := h
  have hw : Like w { w with drawn := w.drawn + 1 } := ⟨rfl, rfl, rfl, rfl⟩
  -- beyond the end the states do not count
  let st' : Nat → St := fun k => if k ≤ l0.length then st k else (st l0.length)
  have hst' : ∀ k, At base l0 nr nb s σ (fun j => Nat.blt j k) (st' k) := fun k => by
    simp only [st']
    split
    · next hk => exact (hst k hk).1
    · next hk =>
      have hn := (hst l0.length (Nat.le_refl _)).1
      have hiff : ∀ (j : Nat) (o : Oper), l0[j]? = some o → (Nat.blt j k = true ↔ Nat.blt j l0.length = true) := fun j o hj => by
        have := (List.getElem?_eq_some_iff.1 hj).1
        exact ⟨fun _ => Nat.ble_eq_true_of_le this, fun _ => Nat.ble_eq_true_of_le (by omega)⟩
      exact ⟨fun j o hj hD => hn.bmade j o hj ((hiff j o hj).1 hD), fun r hh => hn.bold r fun j o hj hD => hh j o hj ((hiff j o hj).2 hD), hn.len, fun j o hj hD => hn.hit j o hj ((hiff j o hj).1 hD), fun d hh => hn.miss d fun j o hj hD => hh j o hj ((hiff j o hj).2 hD),
        fun j o hj hD => hn.made j o hj ((hiff j o hj).1 hD), fun r hh => hn.old r fun j o hj hD => hh j o hj ((hiff j o hj).2 hD)⟩
  refine any_ok (st := st') (nr := nr) (nb := nb) (s := s) (σ := σ) (base := base) (l0 := l0) (L := L) hE hC hP hX' hpre hbig hfl hp h0 hst' (fun k o hk => ?_) (fun fuel listed a w hsz hlo hhi hfu hok => ?_) ops.size (Array.replicate ops.size false) a _ σ (by simp) ?_ ?_ ?_ ⟨G, hR.like hw, hdef⟩ ?_
  · have hlt := (List.getElem?_eq_some_iff.1 hk).1
    simp only [st']
    rw [if_pos (by omega), if_pos (by omega)]
    exact hall k o hk
  · have hlast := (hst l0.length (Nat.le_refl _)).2
    simp only [st', Nat.le_refl, if_true] at hok
    rw [hl0len] at hlo hhi hfu hok hlast hKn
    have hsz2 : ops.toList.length = ops.size := Array.length_toList
    exact tail_ok hE hC hX' (fun o ho d hd => dstsOps_mem ho d hd) hK (ops.size - k0) fuel k0 (base + 256 * k0) listed a w _ rfl hfu hsz hlo hhi (by omega) hch hok hlast hKn
  · have : ∀ n, left (fun j => (Array.replicate ops.size false).getD j false) n ≤ n := fun n => by
      induction n with
      | zero => exact Nat.le_refl _
      | succ n ih => simp only [left]; split <;> omega
    have h2 := this l0.length
    have : ops.toList.length = ops.size := Array.length_toList
    omega
  · intro j _
    rw [Array.getD_eq_getD_getElem?, Array.getElem?_replicate]
    split <;> rfl
  · have hf : ∀ j, (Array.replicate ops.size false).getD j false = false := fun j => by
      rw [Array.getD_eq_getD_getElem?, Array.getElem?_replicate]
      split <;> rfl
    have hno : ∀ {j : Nat} {p : Prop}, (Array.replicate ops.size false).getD j false = true → p := fun {j p} hD => by rw [hf] at hD; cases hD
    exact ⟨fun j o hj hD => hno hD, fun _ _ => rfl, rfl, fun j o hj hD => hno hD, fun _ _ => rfl, fun j o hj hD => hno hD, fun _ _ => rfl⟩
  · intro j o' hj hD
    have hf : (Array.replicate ops.size false).getD j false = false := by
      rw [Array.getD_eq_getD_getElem?, Array.getElem?_replicate]
      split <;> rfl
    rw [hf] at hD; cases hD
where
  key {α : Type} : ∀ {l : List (Nat × α)} {n : Nat} {a : α}, look l n = some a → (n, a) ∈ l
    | (k, b) :: l, n, a, h => by
      rw [look_cons] at h
      split at h
      · next e => subst e; injection h with h; subst h; simp
      · exact List.mem_cons_of_mem _ (key h)
theorem preLen_le (E : Env) (l : List Oper) : preLen E l ≤ l.length := by
  have h1 : ∀ l : List Oper, preLenO l ≤ l.length := fun l => by
    induction l with
    | nil => simp [preLenO]
    | cons o os ih =>
      simp only [preLenO]
      split
      · simp only [List.length_cons]; omega
      · simp
  have h2 : ∀ l : List Oper, preLenS l ≤ l.length := fun l => by
    induction l with
    | nil => simp [preLenS]
    | cons o os ih =>
      simp only [preLenS]
      split
      · simp
      · split
        · simp only [List.length_cons]; omega
        · simp
  unfold preLen
  cases drawAt E false l (preLenS l) with
  | true => exact h2 l
  | false => exact h1 l
theorem draw_ok0 (hE : EnvOk P E) (hC : EnvCts P E F.w0 F.n0) {rid : Nat} {ops : Array Oper} (hX : ∀ d ∈ dstsOps ops.toList, F.free d) {Q : Exit → Act → World → Prop} (hP : ∀ c a w, ¬ Q (.panic c) a w) {K : St → Prop} (h : Ok F σ a w) (hd : drawOk E ops = true) (hk : allB (fun q : Nat × Option Reg => Nat.ble (Nat.succ q.1) base) σ.regs = true) (hkb : allB (fun q : Nat × List Leaf => Nat.ble (Nat.succ q.1) base) σ.boxes = true)
    (hs : evalDraw E ops.toList (tk (preLen E ops.toList) ops.toList) 0 base σ fun σ' => evalSeq E (dp ops.toList (preLen E ops.toList)) (base + 256 * preLen E ops.toList) σ' K)
    (hK : ∀ σ' a' w', K σ' → Ok F σ' a' w' → Ext (dstsOps ops.toList) σ σ' → Q .normal a' w') : (Code.region rid ops true).wp P Q a w :=
  wp_region_any hE.mixed (draw_any0 hE hC (preLen_le E _) hX hP h hd hk hkb hs hK)
theorem draw_ok (hE : EnvOk P E) (hC : EnvCts P E F.w0 F.n0) {rid : Nat} {ops : Array Oper} (hX : ∀ d ∈ dstsOps ops.toList, F.free d) {Q : Exit → Act → World → Prop} {K : St → Prop} (h : Ok F σ a w) (hd : drawOk E ops = true) (hk : allB (fun q : Nat × Option Reg => Nat.ble (Nat.succ q.1) base) σ.regs = true) (hkb : allB (fun q : Nat × List Leaf => Nat.ble (Nat.succ q.1) base) σ.boxes = true)
    (hs : evalDraw E ops.toList (tk (preLen E ops.toList) ops.toList) 0 base σ fun σ' => evalSeq E (dp ops.toList (preLen E ops.toList)) (base + 256 * preLen E ops.toList) σ' K)
    (hK : ∀ σ' a' w', K σ' → Ok F σ' a' w' → Ext (dstsOps ops.toList) σ σ' → Q .normal a' w') : (Code.region rid ops true).wp P Q a w :=
  Code.wp_mono (Q := fun e a w => Q e a w ∧ ∀ c, e ≠ .panic c) (fun e a w h => h.1) (draw_ok0 hE hC hX (fun c a w h => h.2 c rfl) h hd hk hkb hs fun σ' a' w' h1 h2 h3 => ⟨hK σ' a' w' h1 h2 h3, by simp⟩)
end
end Go.Ev
end

section
/- The small machine is true to the model: a region that draws its order may be written down in another order. -/
set_option linter.unusedVariables false
namespace Go.Ev
open Go.RowKit

theorem permA_at {π : List Nat} {n : Nat} : ∀ {l : List Nat} {k : Nat}, permA π n k l = true → ∀ (m i : Nat), l[m]? = some i → invP π i = k + m ∧ i < n
  | [], k, _, m, i, h => by simp at h
  | x :: r, k, h, m, i, hm => by
    simp only [permA, Bool.and_eq_true] at h
    obtain ⟨⟨h1, h2⟩, h3⟩ := h
    cases m with
    | zero =>
      have : x = i := by simpa using hm
      subst this
      exact ⟨beq_nat h1, Nat.le_of_ble_eq_true h2⟩
    | succ m =>
      have := permA_at h3 m i (by simpa using hm)
      exact ⟨by rw [this.1]; omega, this.2⟩
theorem permB_at {π : List Nat} : ∀ {n : Nat}, permB π n = true → ∀ j, j < n → π[invP π j]? = some j
  | 0, _, j, h => by omega
  | n + 1, hb, j, h => by
    simp only [permB, Bool.and_eq_true] at hb
    by_cases e : j = n
    · subst e
      have h1 := hb.1
      split at h1
      · next i hi =>
        have := beq_nat h1
        subst this
        exact nth?_get hi
      · cases h1
    · exact permB_at hb.2 j (by omega)
theorem permL_get {π : List Nat} {l : List Oper} : ∀ {r : List Nat} {l' : List Oper}, permL π l r = some l' → l'.length = r.length ∧ ∀ (m i : Nat), r[m]? = some i → ∃ o, l[i]? = some o ∧ l'[m]? = some (renOp π o)
  | [], l', h => by
    simp only [permL, Option.some.injEq] at h
    subst h
    exact ⟨rfl, fun m i h => by simp at h⟩
  | i :: r, l', h => by
    simp only [permL, Option.bind_eq_some_iff, Option.map_eq_some_iff] at h
    obtain ⟨o, ho, r', hr, rfl⟩ := h
    obtain ⟨h1, h2⟩ := permL_get hr
    refine ⟨by simp [h1], fun m j hm => ?_⟩
    cases m with
    | zero =>
      have : i = j := by simpa using hm
      subst this
      exact ⟨o, nth?_get ho, rfl⟩
    | succ m =>
      obtain ⟨o', h3, h4⟩ := h2 m j (by simpa using hm)
      exact ⟨o', h3, by simpa using h4⟩

section
variable {P : Program} {Q : Exit → Act → World → Prop} {π : List Nat} {ops ops' : Array Oper}

structure Perm (π : List Nat) (ops ops' : Array Oper) : Prop where
  size : ops'.size = ops.size
  to : ∀ (j : Nat) (o : Oper), ops[j]? = some o → ops'[invP π j]? = some (renOp π o)
  lt : ∀ j, j < ops.size → invP π j < ops.size
  inj : ∀ i j, i < ops.size → j < ops.size → invP π i = invP π j → i = j
  onto : ∀ m, m < ops.size → ∃ j, j < ops.size ∧ invP π j = m
  edge : ∀ (j : Nat) (o : Oper), ops[j]? = some o → (∀ e ∈ o.after, e.on < ops.size) ∧ ∀ g b, o.guard = some (g, b) → g < ops.size
theorem perm_of {l : List Oper} (hl : permL π ops.toList π = some l) (hok : permOk π ops.toList = true) (he : ops' = l.toArray) : Perm π ops ops' := by
  unfold permOk at hok
  simp only [Bool.and_eq_true] at hok
  obtain ⟨⟨⟨h0, h1⟩, h2⟩, h3⟩ := hok
  have hn : ops.toList.length = ops.size := Array.length_toList
  rw [hn] at h1 h2 h3
  obtain ⟨hlen, hget⟩ := permL_get hl
  have hA : ∀ (m i : Nat), π[m]? = some i → invP π i = m ∧ i < ops.size := fun m i hm => by
    have := permA_at h1 m i hm
    rwa [Nat.zero_add] at this
  have hB : ∀ j, j < ops.size → π[invP π j]? = some j := permB_at h2
  have hpl : π.length = ops.size := by rw [← hn]; exact beq_nat h0
  subst he
  refine ⟨by simp [hlen, hpl], fun j o hj => ?_, fun j hj => ?_, fun i j hi hj e => ?_, fun m hm => ?_, fun j o hj => ?_⟩
  · have hjl : j < ops.size := (Array.getElem?_eq_some_iff.1 hj).1
    obtain ⟨o', h4, h5⟩ := hget _ _ (hB j hjl)
    rw [Array.getElem?_toList, hj] at h4
    injection h4 with h4
    subst h4
    simpa using h5
  · have := (List.getElem?_eq_some_iff.1 (hB j hj)).1
    omega
  · have a1 := hB i hi
    rw [e, hB j hj] at a1
    exact (Option.some.inj a1).symm
  · have : m < π.length := by omega
    have h4 := hA m _ (List.getElem?_eq_getElem this)
    exact ⟨_, h4.2, h4.1⟩
  · have h4 := allB_all h3 (show o ∈ ops.toList from Array.mem_toList_iff.2 (Array.mem_of_getElem? hj))
    unfold edgesIn at h4
    simp only [Bool.and_eq_true] at h4
    refine ⟨fun e he => ?_, fun g b hg => ?_⟩
    · have h6 := allB_all h4.1 (Array.mem_toList_iff.2 he)
      exact Nat.le_of_ble_eq_true h6
    have h5 := h4.2
    rw [hg] at h5
    exact Nat.le_of_ble_eq_true h5

def Lst (π : List Nat) (n : Nat) (listed listed' : Array Bool) : Prop := listed.size = n ∧ listed'.size = n ∧ ∀ j, j < n → listed'.getD (invP π j) false = listed.getD j false
theorem ready_perm (hp : Perm π ops ops') {listed listed' : Array Bool} (hl : Lst π ops.size listed listed') {i : Nat} (hi : i < ops.size) : i ∈ Region.ready .any ops listed ↔ invP π i ∈ Region.ready .any ops' listed' := by
  obtain ⟨l1, l2, l3⟩ := hl
  have hn := hp.lt i hi
  have hT : ∀ {l : Array Bool} {j : Nat}, j < l.size → l.getD j true = l.getD j false := fun hj => getD_tf hj
  have ho : ops[i]? = some ops[i] := Array.getElem?_eq_getElem hi
  have ho' := hp.to i _ ho
  have hed := (hp.edge i _ ho).1
  have hbind : ∀ e : Edge, Region.binds .any { e with on := invP π e.on } = Region.binds .any e := fun e => rfl
  rw [mem_ready, mem_ready]
  constructor
  · rintro ⟨h1, o, h2, h3⟩
    rw [ho] at h2
    injection h2 with h2
    subst h2
    refine ⟨by rw [hT (by omega)] at h1 ⊢; rw [l3 i hi]; exact h1, _, ho', fun e he hb => ?_⟩
    have he' : e ∈ mp (fun e : Edge => { e with on := invP π e.on }) ops[i].after.toList := by
      have : e ∈ (renOp π ops[i]).after.toList := Array.mem_toList_iff.2 he
      exact this
    rw [mp_map] at he'
    obtain ⟨e0, he0, rfl⟩ := List.mem_map.1 he'
    have h4 := h3 e0 (Array.mem_toList_iff.1 he0) hb
    simp only
    rw [l3 _ (hed e0 (Array.mem_toList_iff.1 he0))]
    exact h4
  · rintro ⟨h1, o, h2, h3⟩
    rw [ho'] at h2
    injection h2 with h2
    subst h2
    refine ⟨by rw [hT (by omega)] at h1 ⊢; rw [← l3 i hi]; exact h1, _, ho, fun e he hb => ?_⟩
    have he' : ({ e with on := invP π e.on } : Edge) ∈ (renOp π ops[i]).after := by
      apply Array.mem_toList_iff.1
      show _ ∈ mp (fun e : Edge => { e with on := invP π e.on }) ops[i].after.toList
      rw [mp_map]
      exact List.mem_map.2 ⟨e, Array.mem_toList_iff.2 he, rfl⟩
    have h4 := h3 _ he' hb
    simp only at h4
    rwa [l3 _ (hed e he)] at h4
theorem wpOp_perm (hp : Perm π ops ops') {i : Nat} (hi : i < ops.size) {K : Act → World → Prop} {a : Act} {w : World} (h : wpOp P ops' Q (invP π i) K a w) : wpOp P ops Q i K a w := by
  have ho : ops[i]? = some ops[i] := Array.getElem?_eq_getElem hi
  have ho' := hp.to i _ ho
  have hy : ∀ g, g < ops.size → yielded ops' a.tmps (invP π g) = yielded ops a.tmps g := fun g hg => by
    have h1 : ops[g]? = some ops[g] := Array.getElem?_eq_getElem hg
    have h2 := hp.to g _ h1
    unfold yielded
    rw [h1, h2]
    rfl
  have hw : Region.wanted (renOp π ops[i]) (yielded ops' a.tmps) = Region.wanted ops[i] (yielded ops a.tmps) := by
    unfold Region.wanted
    cases hg : ops[i].guard with
    | none =>
      have : (renOp π ops[i]).guard = none := by unfold renOp; rw [hg]
      rw [this]
    | some q =>
      obtain ⟨g, b⟩ := q
      have : (renOp π ops[i]).guard = some (invP π g, b) := by unfold renOp; rw [hg]
      rw [this]
      simp only
      rw [hy g ((hp.edge i _ ho).2 g b hg)]
  unfold wpOp at h ⊢
  simp only [ho', ho] at h ⊢
  rw [hw] at h
  exact h
theorem any_perm (hp : Perm π ops ops') : ∀ (fuel : Nat) {listed listed' : Array Bool} {a : Act} {w : World}, Lst π ops.size listed listed' → wpAny P .any ops' Q fuel listed' a w → wpAny P .any ops Q fuel listed a w := by
  have hemp : ∀ {listed listed' : Array Bool}, Lst π ops.size listed listed' → Region.ready .any ops listed = [] → Region.ready .any ops' listed' = [] := fun {listed listed'} hl he => by
    cases hr : Region.ready .any ops' listed' with
    | nil => rfl
    | cons m r =>
      have hm : m ∈ Region.ready .any ops' listed' := by rw [hr]; exact List.mem_cons_self
      have hml : m < ops.size := by
        obtain ⟨_, o, h1, _⟩ := mem_ready.1 hm
        have := (Array.getElem?_eq_some_iff.1 h1).1
        rw [hp.size] at this
        exact this
      obtain ⟨j, hj, rfl⟩ := hp.onto m hml
      have := (ready_perm hp hl hj).2 hm
      rw [he] at this
      cases this
  intro fuel
  induction fuel with
  | zero =>
    intro listed listed' a w hl h
    refine ⟨?_, h.2⟩
    cases hr : Region.ready .any ops listed with
    | nil => rfl
    | cons m r =>
      have hm : m ∈ Region.ready .any ops listed := by rw [hr]; exact List.mem_cons_self
      have hml : m < ops.size := by
        obtain ⟨_, o, h1, _⟩ := mem_ready.1 hm
        exact (Array.getElem?_eq_some_iff.1 h1).1
      have := (ready_perm hp hl hml).1 hm
      rw [h.1] at this
      cases this
  | succ fuel ih =>
    intro listed listed' a w hl h
    refine ⟨fun he => h.1 (hemp hl he), fun i hi => ?_⟩
    have hil : i < ops.size := by
      obtain ⟨_, o, h1, _⟩ := mem_ready.1 hi
      exact (Array.getElem?_eq_some_iff.1 h1).1
    refine wpOp_mono (fun a' w' hh => ih (listed' := listed'.setIfInBounds (invP π i) true) ?_ hh) (wpOp_perm hp hil (h.2 _ ((ready_perm hp hl hil).1 hi)))
    obtain ⟨l1, l2, l3⟩ := hl
    refine ⟨by simp [l1], by simp [l2], fun j hj => ?_⟩
    by_cases e : j = i
    · subst e
      rw [Array.getD_eq_getD_getElem?, Array.getElem?_setIfInBounds, if_pos rfl, if_pos (by rw [l2]; exact hp.lt j hj), Array.getD_eq_getD_getElem?, Array.getElem?_setIfInBounds, if_pos rfl, if_pos (by omega)]
    · rw [getD_set_ne false (fun h => e (hp.inj i j hil hj h).symm), getD_set_ne false (Ne.symm e)]
      exact l3 j hj
end

section
variable {P : Program} {E : Env} {F : Fm} {σ : St} {a : Act} {w : World} {base : Nat}
theorem dstsOps_iff {l : List Oper} {d : Nat} : d ∈ dstsOps l ↔ ∃ o ∈ l, o.dst = some d := by
  induction l with
  | nil => simp [dstsOps]
  | cons o l ih =>
    unfold dstsOps
    cases hd : o.dst with
    | none => simp only; rw [ih]; simp [hd]
    | some d' =>
      simp only [List.mem_cons, ih]
      constructor
      · rintro (rfl | ⟨o', h1, h2⟩)
        · exact ⟨o, .inl rfl, hd⟩
        · exact ⟨o', .inr h1, h2⟩
      · rintro ⟨o', rfl | h1, h2⟩
        · rw [hd] at h2; injection h2 with h2; exact .inl h2.symm
        · exact .inr ⟨o', h1, h2⟩
theorem draw_okP (hE : EnvOk P E) (hC : EnvCts P E F.w0 F.n0) {rid : Nat} {ops : Array Oper} {π : List Nat} {k0 : Nat} {l : List Oper} (hl : permL π ops.toList π = some l) (hok : permOk π ops.toList = true) (hkl : k0 ≤ l.length) (hX : ∀ d ∈ dstsOps ops.toList, F.free d) {Q : Exit → Act → World → Prop} {K : St → Prop} (h : Ok F σ a w) (hd : drawAt E true l k0 = true)
    (hk : allB (fun q : Nat × Option Reg => Nat.ble (Nat.succ q.1) base) σ.regs = true) (hkb : allB (fun q : Nat × List Leaf => Nat.ble (Nat.succ q.1) base) σ.boxes = true)
    (hs : evalDraw E l (tk k0 l) 0 base σ fun σ' => evalSeq E (dp l k0) (base + 256 * k0) σ' K)
    (hK : ∀ σ' a' w', K σ' → Ok F σ' a' w' → Ext (dstsOps ops.toList) σ σ' → Q .normal a' w') : (Code.region rid ops true).wp P Q a w := by
  have hp := perm_of hl hok (rfl : l.toArray = l.toArray)
  have hsub : ∀ d, d ∈ dstsOps l → d ∈ dstsOps ops.toList := fun d hd => by
    obtain ⟨o, ho, h1⟩ := dstsOps_iff.1 hd
    obtain ⟨m, hm⟩ := List.mem_iff_getElem?.1 ho
    have hml : m < ops.size := by
      have := (List.getElem?_eq_some_iff.1 hm).1
      have hz := hp.size
      simp at hz
      omega
    obtain ⟨j, hj, rfl⟩ := hp.onto m hml
    have h2 := hp.to j _ (Array.getElem?_eq_getElem hj)
    have h3 : l[invP π j]? = some (renOp π ops[j]) := by simpa using h2
    rw [hm] at h3
    injection h3 with h3
    subst h3
    exact dstsOps_iff.2 ⟨ops[j], Array.mem_toList_iff.2 (Array.getElem_mem hj), h1⟩
  refine Code.wp_mono (Q := fun e a w => Q e a w ∧ ∀ c, e ≠ .panic c) (fun e a w h => h.1) ?_
  refine wp_region_any hE.mixed (any_perm hp ops.size (listed' := Array.replicate ops.size false) ⟨by simp, by simp, fun j hj => ?_⟩ ?_)
  · have hf : ∀ j, (Array.replicate ops.size false).getD j false = false := fun j => by
      rw [Array.getD_eq_getD_getElem?, Array.getElem?_replicate]
      split <;> rfl
    rw [hf, hf]
  · have := draw_any0 (Q := fun e a w => Q e a w ∧ ∀ c, e ≠ .panic c) (ops := l.toArray) (k0 := k0) hE hC (by simpa using hkl) (fun d hd => hX d (hsub d (by simpa using hd))) (fun c a w h => h.2 c rfl) h (by simpa using hd) hk hkb (by simpa using hs) fun σ' a' w' h1 h2 h3 => ⟨hK σ' a' w' h1 h2 (h3.mono fun i hi => hsub i (by simpa using hi)), by simp⟩
    rw [hp.size] at this
    exact this
end
end Go.Ev
end

section
/- The small machine is true to the model, twenty-second part: what a loop carries goes in. -/
set_option linter.unusedVariables false
namespace Go.Ev
open Go.RowKit

section
variable {F : Fm} {G : Gh} {σ τ σ' : St} {w : World} {tmps : Array Value}

theorem memN_iff : ∀ {l : List Nat} {n : Nat}, memN n l = true ↔ n ∈ l
  | [], n => by simp [memN]
  | m :: l, n => by simp [memN, memN_iff (l := l)]
theorem junkAll_spec : ∀ (ds : List Nat) (ss : List Slot) (i : Nat), (i ∈ ds → nth (.cell .junk) (junkAll ss ds) i = .cell .junk) ∧ (i ∉ ds → nth (.cell .junk) (junkAll ss ds) i = nth (.cell .junk) ss i) ∧ (nth (.cell .junk) ss i = .cell .junk → nth (.cell .junk) (junkAll ss ds) i = .cell .junk)
  | [], ss, i => ⟨by simp, fun _ => rfl, fun h => h⟩
  | d :: ds, ss, i => by
    obtain ⟨h1, h2, h3⟩ := junkAll_spec ds (put ss d (.cell .junk)) i
    have hp : nth (.cell .junk) (put ss d (.cell .junk)) i = .cell .junk ∨ (i ≠ d ∧ nth (.cell .junk) (put ss d (.cell .junk)) i = nth (.cell .junk) ss i) := by
      rw [nth_put]
      by_cases e : d = i
      · subst e
        by_cases hl : d < ss.length
        · rw [if_pos ⟨rfl, hl⟩]; exact .inl rfl
        · rw [if_neg (fun h => hl h.2)]
          left
          clear h1 h2 h3
          induction ss generalizing d with
          | nil => rfl
          | cons a ss ih =>
            cases d with
            | zero => simp at hl
            | succ d => exact ih d (by simpa using hl)
      · rw [if_neg (fun h => e h.1)]
        exact .inr ⟨Ne.symm e, rfl⟩
    refine ⟨fun h => ?_, fun h => ?_, fun h => ?_⟩
    · simp only [junkAll]
      rcases hp with hp | hp
      · exact h3 hp
      · rcases List.mem_cons.1 h with e | h
        · exact absurd e hp.1
        · exact h1 h
    · simp only [junkAll]
      have hne : i ≠ d := fun e => h (by rw [e]; simp)
      rw [h2 fun h' => h (List.mem_cons_of_mem _ h'), nth_put, if_neg (fun h => hne h.1.symm)]
    · simp only [junkAll]
      refine h3 ?_
      rcases hp with hp | hp
      · exact hp
      · exact hp.2.trans h
theorem junkAll_length : ∀ (ds : List Nat) (ss : List Slot), (junkAll ss ds).length = ss.length
  | [], _ => rfl
  | d :: ds, ss => by simp only [junkAll, junkAll_length ds, length_put]

structure Base (D : List Nat) (σ σb : St) : Prop where
  hit : ∀ i, i ∈ D → nth (.cell .junk) σb.slots i = .cell .junk
  miss : ∀ i, i ∉ D → nth (.cell .junk) σb.slots i = nth (.cell .junk) σ.slots i
  boxes : ∀ b c, look σb.boxes b = some c → ∃ c', look σ.boxes b = some c' ∧ weakL c c'
  boxN : ∀ b, (look σ.boxes b).isSome → (look σb.boxes b).isSome
  regN : ∀ r, (look σ.regs r).isSome → (look σb.regs r).isSome
  regs : ∀ r g, σb.reg? r = some g → σ.reg? r = some g
  len : σb.slots.length = σ.slots.length
theorem Base.trans {D : List Nat} (h : Base [] σ τ) (h' : Base D τ σ') : Base D σ σ' where
  hit := h'.hit
  miss i hi := (h'.miss i hi).trans (h.miss i (by simp))
  boxes b c hc := by
    obtain ⟨c1, h1, w1⟩ := h'.boxes b c hc
    obtain ⟨c2, h2, w2⟩ := h.boxes b c1 h1
    exact ⟨c2, h2, weakL_trans w1 w2⟩
  boxN b hb := h'.boxN b (h.boxN b hb)
  regN r hr := h'.regN r (h.regN r hr)
  regs r g hg := h.regs r g (h'.regs r g hg)
  len := h'.len.trans h.len
theorem Base.refl : Base [] σ σ := ⟨by simp, fun _ _ => rfl, fun b c h => ⟨c, h, weakL_refl c⟩, fun _ h => h, fun _ h => h, fun _ _ h => h, rfl⟩
theorem base_kill (r : Nat) : Base [] σ (σ.setReg r none) where
  hit := by simp
  miss _ _ := rfl
  boxes b c h := ⟨c, h, weakL_refl c⟩
  boxN _ h := h
  regN r' h := by rw [setReg_look]; exact isSome_if h
  regs r' g h := by
    rw [setReg_reg?] at h
    split at h
    · cases h
    · exact h
  len := rfl
theorem base_giveUps {σ0 : St} : ∀ {cs : List CT} {σ σ' : St}, giveUps σ0 cs σ = some σ' → Base [] σ σ'
  | [], σ, σ', h => by
    simp only [giveUps, Option.some.injEq] at h
    subst h; exact Base.refl
  | .val _ _ :: cs, σ, σ', h | .box _ _ _ :: cs, σ, σ', h => by
    simp only [giveUps] at h
    exact base_giveUps h
  | .reg s e ls a d :: cs, σ, σ', h | .breg s o e ls d :: cs, σ, σ', h => by
    simp only [giveUps, Option.bind_eq_some_iff] at h
    obtain ⟨l, _, σ1, hg, h⟩ := h
    refine Base.trans ?_ (base_giveUps h)
    unfold giveUp at hg
    split at hg
    · injection hg with hg; subst hg; exact base_kill _
    · injection hg with hg; subst hg; exact Base.refl
    · cases hg
theorem base_junkBox {s o : Nat} (h : junkBox σ s o = some σ') : Base [] σ σ' ∧ ∃ b, nth (.cell .junk) σ.slots s = .cell (.box b 0) ∧ ∀ c, look σ'.boxes b = some c → nth .junk c o = .junk := by
  unfold junkBox at h
  split at h
  · next b hs =>
    obtain ⟨c, hc, rfl⟩ := Option.map_eq_some_iff.1 h
    refine ⟨⟨by simp, fun _ _ => rfl, fun b' c' h' => ?_, fun b' h' => ?_, fun _ h => h, fun _ _ h => h, rfl⟩, b, hs, fun c' hc' => ?_⟩
    · rw [setBox_look] at h'
      split at h'
      · next e => subst e; injection h' with h'; subst h'; exact ⟨c, hc, weakL_put c o⟩
      · exact ⟨c', h', weakL_refl c'⟩
    · rw [setBox_look]; exact isSome_if h'
    · rw [setBox_look, if_pos rfl] at hc'
      injection hc' with hc'
      subst hc'
      rw [nth_put]
      by_cases hl : o < c.length
      · rw [if_pos ⟨rfl, hl⟩]
      · rw [if_neg (fun h => hl h.2)]
        clear hc h
        induction c generalizing o with
        | nil => rfl
        | cons a c ih =>
          cases o with
          | zero => simp at hl
          | succ o => exact ih (by simpa using hl)
  · cases h
def boxAt : CT → Option (Nat × Nat)
  | .box s o _ | .breg s o _ _ _ => some (s, o)
  | _ => none
theorem base_junkBoxes : ∀ {cs : List CT} {σ σ' : St}, junkBoxes cs σ = some σ' → Base [] σ σ' ∧ ∀ t ∈ cs, ∀ s o, boxAt t = some (s, o) → ∃ b, nth (.cell .junk) σ.slots s = .cell (.box b 0) ∧ ∀ c, look σ'.boxes b = some c → nth .junk c o = .junk
  | [], σ, σ', h => by
    simp only [junkBoxes, Option.some.injEq] at h
    subst h; exact ⟨Base.refl, by simp⟩
  | .val _ _ :: cs, σ, σ', h | .reg _ _ _ _ _ :: cs, σ, σ', h => by
    simp only [junkBoxes] at h
    obtain ⟨h1, h2⟩ := base_junkBoxes h
    refine ⟨h1, fun t ht s o hb => ?_⟩
    rcases List.mem_cons.1 ht with e | ht
    · subst e; cases hb
    · exact h2 t ht s o hb
  | .box s1 o1 _ :: cs, σ, σ', h | .breg s1 o1 _ _ _ :: cs, σ, σ', h => by
    simp only [junkBoxes, Option.bind_eq_some_iff] at h
    obtain ⟨σ1, hj, h⟩ := h
    obtain ⟨j1, b1, j2, j3⟩ := base_junkBox hj
    obtain ⟨h1, h2⟩ := base_junkBoxes h
    refine ⟨j1.trans h1, fun t ht s o hb => ?_⟩
    rcases List.mem_cons.1 ht with e | ht
    · subst e
      simp only [boxAt, Option.some.injEq, Prod.mk.injEq] at hb
      obtain ⟨rfl, rfl⟩ := hb
      refine ⟨b1, j2, fun c hc => ?_⟩
      obtain ⟨c', h3, h4⟩ := h1.boxes b1 c hc
      exact weakL_nth h4 _ (j3 c' h3)
    · obtain ⟨b, h3, h4⟩ := h2 t ht s o hb
      exact ⟨b, (j1.miss s (by simp)).symm.trans h3, h4⟩
theorem base_ok {cs : List CT} {D : List Nat} {σb : St} (h : base cs D σ = some σb) : Base D σ σb ∧ ∀ t ∈ cs, ∀ s o, boxAt t = some (s, o) → ∃ b, nth (.cell .junk) σ.slots s = .cell (.box b 0) ∧ ∀ c, look σb.boxes b = some c → nth .junk c o = .junk := by
  unfold base at h
  obtain ⟨σ1, h1, h⟩ := Option.bind_eq_some_iff.1 h
  obtain ⟨σ2, h2, rfl⟩ := Option.map_eq_some_iff.1 h
  have b1 := base_giveUps h1
  obtain ⟨b2, j2⟩ := base_junkBoxes h2
  have b3 := Base.trans b1 b2
  refine ⟨⟨fun i hi => (junkAll_spec _ _ i).1 hi, fun i hi => ((junkAll_spec _ _ i).2.1 hi).trans (b3.miss i (by simp)), b3.boxes, b3.boxN, b3.regN, b3.regs, (junkAll_length _ _).trans b3.len⟩, fun t ht s o hb => ?_⟩
  obtain ⟨b, h3, h4⟩ := j2 t ht s o hb
  exact ⟨b, (b1.miss s (by simp)).symm.trans h3, h4⟩
theorem Base.named {D : List Nat} {σb : St} (hb : Base D σ σb) (h : Rel F G σ tmps w) : (∀ i, slotN σb (nth (.cell .junk) σb.slots i)) ∧ ∀ b c, look σb.boxes b = some c → leafsN σb c := by
  have hN : Names σ σb := ⟨hb.boxN, hb.regN⟩
  refine ⟨fun i => ?_, fun b c hc => ?_⟩
  · by_cases hi : i ∈ D
    · rw [hb.hit i hi]; simp only [slotN, leafN]
    · rw [hb.miss i hi]; exact slotN_mono hN (slotN_of (h.slots i))
  · obtain ⟨c', h1, h2⟩ := hb.boxes b c hc
    obtain ⟨t, cur, _, _, b3, _⟩ := h.boxes b c' h1
    have h3 := leafsN_mono hN (leafsN_of b3)
    clear hc h1 b3
    induction c generalizing c' with
    | nil => simp only [leafsN]
    | cons l c ih =>
      cases c' with
      | nil => simp [weakL] at h2
      | cons m c' =>
        simp only [leafsN] at h3 ⊢
        refine ⟨?_, ih c' h2.2 h3.2⟩
        rcases h2.1 with e | e
        · subst e; simp only [leafN]
        · subst e; exact h3.1

def recol (c : Nat → Option Col) (r id : Nat) (b : Nat) : Option Col := (c b).map fun p => if rootOf p = some r then p.dropLast ++ [(id, 0)] else p
theorem recol_of {c : Nat → Option Col} {r id b : Nat} {l : Col} (h : c b = some (l ++ [(r, 0)])) : recol c r id b = some (l ++ [(id, 0)]) := by
  unfold recol
  rw [h, Option.map_some, if_pos (rootOf_snoc l r)]
  simp
theorem recol_ne {c : Nat → Option Col} {r id b : Nat} {p : Col} (h : c b = some p) (hr : rootOf p ≠ some r) : recol c r id b = some p := by
  unfold recol
  rw [h, Option.map_some, if_neg hr]
theorem recol_none {c : Nat → Option Col} {r id b : Nat} : recol c r id b = none ↔ c b = none := by
  unfold recol
  rw [Option.map_eq_none_iff]
theorem Rel.recolor (h : Rel F G σ tmps w) {r id : Nat} (hr : σ.reg? r = none) : Rel F { G with c := recol G.c r id } σ tmps w := by
  have hst : ∀ b, stab F G.c w b → stab F (recol G.c r id) w b := fun b hb => by
    rcases hb with hb | hb
    · exact .inl hb
    · exact .inr ⟨hb.1, hb.2.1, recol_none.2 hb.2.2⟩
  have k : Keep F G σ w { G with c := recol G.c r id } σ w := {
    below := BelowO.refl _ _
    st := fun b hb => ⟨hst b hb, rfl⟩
    bx := fun b hb => ⟨hb, rfl⟩
    rg := fun r hr => ⟨hr, rfl, fun g hg => ⟨g, hg, rfl, rfl⟩⟩ }
  refine h.next k (fun b hb => h.col b fun e => hb (recol_none.2 e)) (fun b c hb => .inl ⟨hb, ?_, rfl⟩) (fun r' g hg => .inl ⟨hg, .inr fun b p hb hp => ⟨?_, rfl⟩⟩) (fun i => .inl ⟨rfl, rfl⟩) h.nslots
  · obtain ⟨t, cur, _, b2, _⟩ := h.boxes b c hb
    exact (recol_ne b2 (by simp [rootOf])).trans b2.symm
  · refine recol_ne hb fun e => ?_
    obtain ⟨l, rfl⟩ := hp
    rw [rootOf_snoc] at e
    injection e with e
    subst e
    rw [hr] at hg
    cases hg

theorem leafsR_get {S : Nat → Prop} : ∀ {ls : List Leaf} {vs : List Value} {o : Nat} {l : Leaf}, leafsR S G σ w ls vs → nth? ls o = some l → ∃ v, vs[o]? = some v ∧ leafR S G σ w l v
  | [], _, _, _, _, h => by simp [nth?] at h
  | l :: ls, _, 0, _, hr, h => by
    simp only [leafsR] at hr
    obtain ⟨v, vs', rfl, h1, _⟩ := hr
    simp only [nth?, Option.some.injEq] at h
    subst h
    exact ⟨v, rfl, h1⟩
  | l :: ls, _, o + 1, _, hr, h => by
    simp only [leafsR] at hr
    obtain ⟨v, vs', rfl, _, h2⟩ := hr
    obtain ⟨u, hu, h3⟩ := leafsR_get h2 (by simpa [nth?] using h)
    exact ⟨u, by simpa using hu, h3⟩
theorem leafsR_put {S : Nat → Prop} {x : Leaf} : ∀ {ls : List Leaf} {vs : List Value} {o : Nat}, leafsR S G σ w ls vs → (∀ v, vs[o]? = some v → leafR S G σ w x v) → leafsR S G σ w (put ls o x) vs
  | [], _, _, h, _ => by simpa [put] using h
  | l :: ls, _, 0, h, hx => by
    simp only [leafsR] at h
    obtain ⟨v, vs', rfl, _, h2⟩ := h
    simp only [put, leafsR]
    exact ⟨v, vs', rfl, hx v rfl, h2⟩
  | l :: ls, _, o + 1, h, hx => by
    simp only [leafsR] at h
    obtain ⟨v, vs', rfl, h1, h2⟩ := h
    simp only [put, leafsR]
    exact ⟨v, vs', rfl, h1, leafsR_put h2 fun u hu => hx u (by simpa using hu)⟩

theorem Rel.cell (h : Rel F G σ tmps w) {b o : Nat} {c : List Leaf} {x : Leaf} (hc : look σ.boxes b = some c) (hx : ∀ cur t fr, w.heap[G.bb b]? = some (.cells cur t fr) → ∀ v, cur.toList[o]? = some v → leafR (stab F G.c w) G σ w x v) : Rel F G (σ.setBox b (put c o x)) tmps w := by
  have k : Keep F G σ w G (σ.setBox b (put c o x)) w := {
    below := BelowO.refl _ _
    st := fun b hb => ⟨hb, rfl⟩
    bx := fun b hb => by rw [setBox_look]; exact ⟨isSome_if hb, rfl⟩
    rg := fun r hr => ⟨hr, rfl, fun g hg => ⟨g, hg, rfl, rfl⟩⟩ }
  refine h.next k h.col (fun b' c' hb => ?_) (fun r' g hg => .inl ⟨hg, .inr fun b p hb hp => ⟨hb, rfl⟩⟩) (fun i => .inl ⟨rfl, rfl⟩) h.nslots
  rw [setBox_look] at hb
  split at hb
  · next e =>
    subst e
    injection hb with hb
    subst hb
    right
    obtain ⟨t, cur, b1, b2, b3, b4⟩ := h.boxes b c hc
    exact ⟨t, cur, b1, b2, leafsR_keep k (leafsR_put b3 (hx cur t _ b1)), b4⟩
  · exact .inl ⟨hb, rfl, rfl⟩
end
end Go.Ev
end

section
/- The small machine is true to the model, twenty-third part: what a loop carries, from round to round. -/
set_option linter.unusedVariables false
namespace Go.Ev
open Go.RowKit

section
variable {F : Fm} {G : Gh} {σ τ σ' : St} {w : World} {tmps : Array Value}

theorem cthd_mk {t : CT} {ts : List CT} (a : t.den) (r : cts ts) : cthd (ctmk (t := t) a r) = a := by cases ts <;> rfl
theorem cttl_mk {t : CT} {ts : List CT} (a : t.den) (r : cts ts) : cttl (ctmk (t := t) a r) = r := by cases ts <;> rfl

theorem rowC_ok {a d : Bool} {m id : Nat} {σb : St} {c0 c : Nat → Option Col} {bb : Nat → Nat} {rv rv' : Nat → Value} {e : TypeId} {ls : List L} {l : Leaf} {xs : List (dens ls)} {τ' : St} {v : Value}
    (hτ : Rel F ⟨c0, bb, rv⟩ τ tmps w) (hσ : Rel F ⟨c, bb, rv'⟩ σ tmps w) (hC : ∀ b, c b = c0 b ∨ ∃ l r, c0 b = some (l ++ [(r, 0)]) ∧ τ.reg? r = none) (hD : ∀ b, c b = none ↔ c0 b = none)
    (hS : ∀ r g, σ.reg? r = some g → σb.reg? r = some g ∨ (m ≤ r ∧ r < id)) (hid : m ≤ id ∧ id < m + 65536) (hl : leafR (stab F c0 w) ⟨c0, bb, rv⟩ τ w l v) (hr : rowC a d m id σb τ e ls l = some (xs, τ')) (hn : newReg σ id e ls xs a d = some σ') :
    ∃ c' rv2, Rel F ⟨c0, bb, rv⟩ τ' tmps w ∧ Rel F ⟨c', bb, rv2⟩ σ' tmps w ∧ (∀ b, c' b = c0 b ∨ ∃ l r, c0 b = some (l ++ [(r, 0)]) ∧ τ'.reg? r = none) ∧ (∀ b, c' b = none ↔ c0 b = none) ∧
      leafR (stab F c' w) ⟨c', bb, rv2⟩ σ' w (.reg id) v ∧ τ'.slots = τ.slots ∧ τ'.boxes = τ.boxes := by
  have hst : ∀ {b}, stab F c0 w b → stab F c w b := fun {b} hb => hb.imp (fun h => h) fun h => ⟨h.1, h.2.1, (hD b).2 h.2.2⟩
  unfold rowC at hr
  split at hr
  · -- nothing
    obtain ⟨rfl, rfl⟩ := Prod.mk.inj (Option.some.inj hr)
    simp only [leafR] at hl
    obtain ⟨h1, k1, h2⟩ := hσ.claim hn (v := v) (by
      subst hl
      refine nil_rep fun p e sz => ?_
      unfold regRow
      split
      · exact .inl ⟨rfl, none, rfl⟩
      · exact ro_nil p e sz)
    exact ⟨c, _, hτ, h1, hC, hD, h2, rfl, rfl⟩
  · next r =>
    split at hr
    · cases hr
    · next hb0 =>
      obtain ⟨hcond, hr⟩ := bif_some hr
      obtain ⟨xs', has, hx⟩ := Option.map_eq_some_iff.1 hr
      obtain ⟨rfl, rfl⟩ := Prod.mk.inj hx
      unfold asRow at has
      simp only at has
      obtain ⟨g, hg, has⟩ := Option.bind_eq_some_iff.1 has
      split at has
      · next hq =>
        obtain ⟨hfa, hasv⟩ := bif_some has
        clear has
        injection hasv with hasv
        simp only [Bool.and_eq_true, Bool.not_eq_true'] at hfa
        obtain ⟨⟨⟨hfz, happ⟩, hnh⟩, hdp⟩ := hfa
        have happ := sameB_eq happ
        have hdp := sameB_eq hdp
        have hq2 : Nat.beq e g.e = true ∧ L.beqs g.ls ls = true := Bool.and_eq_true _ _ ▸ hq
        have hreg := hτ.regs r g hg
        rw [regR_whole (noH_nil hnh)] at hreg
        obtain ⟨ge, gls, gxs, gapp, gfrz, gdeep, gholes⟩ := g
        simp only at hfz hq2 hreg
        have happ : gapp = a := happ
        have hdp : gdeep = d := hdp
        subst hfz happ hdp
        have e1 := beq_nat hq2.1
        have e2 := L.beqs_eq _ _ hq2.2
        subst e1 e2
        have e3 : gxs = xs' := hasv
        subst e3
        simp only [Bool.false_eq_true, if_false] at hreg
        simp only [leafR] at hl
        obtain ⟨_, hv, _⟩ := hl
        rw [← hv] at hreg
        have hdead : σ.reg? r = none := by
          cases hsr : σ.reg? r with
          | none => rfl
          | some g' =>
            rcases hS r g' hsr with h1 | ⟨h1, h2⟩
            · rw [hb0] at h1; cases h1
            · simp only [Bool.or_eq_true] at hcond
              rcases hcond with h3 | h3 | h3
              · have := beq_nat h3; omega
              · have := Nat.le_of_ble_eq_true h3; omega
              · have : m + 65536 ≤ r := Nat.le_of_ble_eq_true h3
                omega
        have hkill := (hτ.kill r (reg?_some hg)).1
        have hkr : ∀ r', τ.reg? r' = none → (τ.setReg r none).reg? r' = none := fun r' h2 => by
          rw [setReg_reg?]; split
          · rfl
          · exact h2
        have hsame : ∀ b l, c0 b = some (l ++ [(r, 0)]) → c b = some (l ++ [(r, 0)]) := fun b l hb => by
          rcases hC b with h1 | ⟨l', r', h1, h2⟩
          · exact h1.trans hb
          · rw [h1] at hb
            have := congrArg List.getLast? (Option.some.inj hb)
            simp at this
            subst this
            rw [hg] at h2; cases h2
        have hσ2 := hσ.recolor (r := r) (id := id) hdead
        have hst2 : ∀ b, stab F c0 w b → stab F (recol c r id) w b := fun b hb => by
          rcases hst hb with hb | hb
          · exact .inl hb
          · exact .inr ⟨hb.1, hb.2.1, recol_none.2 hb.2.2⟩
        obtain ⟨h1, k1, h2⟩ := hσ2.claim hn (v := v) (by
          refine repL_map (fun l e sz n v cs hh => ?_) hreg
          unfold regRow at hh ⊢
          have hlen : (l ++ [(r, 0)]).length = (l ++ [(id, 0)]).length := by simp
          rw [hlen] at hh
          split at hh
          · next hc => rw [if_pos hc]; exact own_mono (fun g hg => ⟨recol_of (hsame g l hg), rfl⟩) (fun h => h) hh
          · next hc => rw [if_neg hc]; exact ro_mono (fun b hb => ⟨hst2 b hb, rfl⟩) hh)
        refine ⟨_, _, hkill, h1, fun b => ?_, fun b => recol_none.trans (hD b), h2, rfl, rfl⟩
        cases hcb : c b with
        | none =>
          left
          show recol c r id b = c0 b
          rw [show recol c r id b = none from recol_none.2 hcb]
          exact ((hD b).1 hcb).symm
        | some p =>
          by_cases hp : rootOf p = some r
          · rcases hC b with h3 | ⟨l', r', h3, h4⟩
            · refine .inr ⟨p.dropLast, r, ?_, by rw [setReg_reg?, if_pos rfl]⟩
              rw [← h3, hcb, ← rootOf_some hp]
            · exact .inr ⟨l', r', h3, hkr r' h4⟩
          · rcases hC b with h3 | ⟨l', r', h3, h4⟩
            · left
              show recol c r id b = c0 b
              rw [recol_ne hcb hp, ← h3, hcb]
            · exact .inr ⟨l', r', h3, hkr r' h4⟩
      · cases has
  · cases hr

def BoxSlots (σ τ : St) : Prop := ∀ s b, nth (.cell .junk) σ.slots s = .cell (.box b 0) → nth (.cell .junk) τ.slots s = .cell (.box b 0)
theorem BoxSlots.set (h : BoxSlots σ τ) {s : Nat} {l : Leaf} (hl : ∀ b, l ≠ .box b 0) : BoxSlots (σ.setSlot (some s) (.cell l)) τ := fun s' b hs => by
  simp only [St.setSlot, nth_put] at hs
  split at hs
  · injection hs with hs; exact absurd hs (hl b)
  · exact h s' b hs

theorem fillBox_ok {G0 : Gh} {s o : Nat} {x l0 : Leaf} (hτ : Rel F G0 τ tmps w) (hσ : Rel F G σ tmps w) (hbb : G.bb = G0.bb) (hB : BoxSlots σ τ) {b : Nat} {cτ : List Leaf} (hs : nth (.cell .junk) τ.slots s = .cell (.box b 0)) (hc : look τ.boxes b = some cτ) (ho : nth? cτ o = some l0)
    (hf : fillBox σ s o x = some σ') (hx : ∀ v, leafR (stab F G0.c w) G0 τ w l0 v → leafR (stab F G.c w) G σ w x v) : Rel F G σ' tmps w ∧ σ'.slots = σ.slots ∧ σ'.regs = σ.regs := by
  unfold fillBox at hf
  split at hf
  · next b' hs' =>
    have e := hB s b' hs'
    rw [hs] at e
    have e' : b = b' := by simpa using e
    subst e'
    obtain ⟨c, hcσ, hf⟩ := Option.bind_eq_some_iff.1 hf
    obtain ⟨_, hf⟩ := bif_some hf
    injection hf with hf
    subst hf
    refine ⟨hσ.cell hcσ fun cur t fr hcur v hv => hx v ?_, rfl, rfl⟩
    obtain ⟨t', cur', b1, _, b3, _⟩ := hτ.boxes b cτ hc
    rw [hbb, b1] at hcur
    injection hcur with hcur
    injection hcur with hcur
    subst hcur
    obtain ⟨u, hu, h3⟩ := leafsR_get b3 ho
    rw [hu] at hv
    injection hv with hv
    subst hv
    exact h3
  · cases hf

theorem fill_head {m : Nat} {σb : St} : ∀ {cs : List CT} {id : Nat} {y : cts cs} {τ σ σh : St} {c0 c : Nat → Option Col} {bb : Nat → Nat} {rv rv' : Nat → Value}, Rel F ⟨c0, bb, rv⟩ τ tmps w → Rel F ⟨c, bb, rv'⟩ σ tmps w →
    (∀ b, c b = c0 b ∨ ∃ l r, c0 b = some (l ++ [(r, 0)]) ∧ τ.reg? r = none) → (∀ b, c b = none ↔ c0 b = none) → (∀ r g, σ.reg? r = some g → σb.reg? r = some g ∨ (m ≤ r ∧ r < id)) → m ≤ id → id + cs.length ≤ m + 65536 → BoxSlots σ τ →
    carry m σb id τ cs = some y → head id cs y σ = some σh → ∃ G', Rel F G' σh tmps w
  | [], id, y, τ, σ, σh, c0, c, bb, rv, rv', hτ, hσ, _, _, _, _, _, _, _, hh => by
    simp only [head, Option.some.injEq] at hh
    subst hh
    exact ⟨_, hσ⟩
  | .val s t :: cs, id, y, τ, σ, σh, c0, c, bb, rv, rv', hτ, hσ, hC, hD, hS, hm, hle, hB, hc, hh => by
    simp only [carry, Option.bind_eq_some_iff, Option.map_eq_some_iff] at hc
    obtain ⟨l, hl, x, hx, r, hr, rfl⟩ := hc
    have e1 : cthd (ctmk (t := .val s t) (ts := cs) x r) = x := cthd_mk (t := .val s t) x r
    have e2 : cttl (ctmk (t := .val s t) (ts := cs) x r) = r := cttl_mk (t := .val s t) x r
    simp only [head] at hh
    rw [e1, e2] at hh
    have hs : nth (.cell .junk) τ.slots s = .cell l := by
      unfold ctLeaf at hl
      split at hl
      · next e => cases e; split at hl
                  · next h => injection hl with hl; subst hl; exact h
                  · cases hl
      all_goals first | (next e => cases e) | skip
    have hv := hτ.slots s
    rw [hs] at hv
    simp only [slotR] at hv
    have hrep := as_stab hτ hv hx
    have hst : ∀ b, stab F c0 w b → stab F c w b := fun b hb => hb.imp (fun h => h) fun h => ⟨h.1, h.2.1, (hD b).2 h.2.2⟩
    have hσ2 := hσ.slotT (g := s) (s := .cell (.val t x)) (by
      simp only [slotR, leafR]
      exact repL_mono (fun _ _ _ _ _ _ hh => ro_mono (fun b hb => ⟨hst b hb, rfl⟩) hh) hrep)
    refine fill_head hτ hσ2 hC hD (fun r g hg => ?_) (by omega) (by simp only [List.length_cons] at hle; omega) (hB.set (by simp)) hr hh
    rw [setSlot_reg?] at hg
    exact (hS r g hg).imp (fun h => h) fun h => ⟨h.1, by omega⟩
  | .reg s e ls a d :: cs, id, y, τ, σ, σh, c0, c, bb, rv, rv', hτ, hσ, hC, hD, hS, hm, hle, hB, hc, hh => by
    simp only [carry, Option.bind_eq_some_iff, Option.map_eq_some_iff] at hc
    obtain ⟨l, hl, ⟨xs, τ'⟩, hx, r, hr, rfl⟩ := hc
    have e1 : cthd (ctmk (t := .reg s e ls a d) (ts := cs) xs r) = xs := cthd_mk (t := .reg s e ls a d) xs r
    have e2 : cttl (ctmk (t := .reg s e ls a d) (ts := cs) xs r) = r := cttl_mk (t := .reg s e ls a d) xs r
    simp only [head, Option.bind_eq_some_iff] at hh
    rw [e1, e2] at hh
    obtain ⟨σ1, hn, hh⟩ := hh
    simp only [List.length_cons] at hle
    have hs : nth (.cell .junk) τ.slots s = .cell l := by
      unfold ctLeaf at hl
      split at hl
      · next e => cases e
      · next e => cases e; split at hl
                  · next h => injection hl with hl; subst hl; exact h
                  · cases hl
      all_goals first | (next e => cases e) | skip
    have hv := hτ.slots s
    rw [hs] at hv
    simp only [slotR] at hv
    obtain ⟨c', rv2, h1, h2, h3, h4, h5, h6, h7⟩ := rowC_ok hτ hσ hC hD hS ⟨hm, by omega⟩ hv hx hn
    have hσ2 := h2.slotT (g := s) (s := .cell (.reg id)) (by simp only [slotR]; exact h5)
    refine fill_head h1 hσ2 h3 h4 (fun r g hg => ?_) (by omega) (by omega) ?_ hr hh
    · rw [setSlot_reg?] at hg
      unfold newReg at hn
      split at hn
      · injection hn with hn
        subst hn
        rw [setReg_reg?] at hg
        split at hg
        · next e' => exact .inr ⟨by omega, by omega⟩
        · exact (hS r g hg).imp (fun h => h) fun h => ⟨h.1, by omega⟩
      · cases hn
    · have hsl : σ1.slots = σ.slots := by
        unfold newReg at hn
        split at hn
        · injection hn with hn; subst hn; rfl
        · cases hn
      have : BoxSlots σ1 τ' := fun s b hs => by rw [h6]; exact hB s b (by rwa [hsl] at hs)
      exact this.set (by simp)
  | .box s o t :: cs, id, y, τ, σ, σh, c0, c, bb, rv, rv', hτ, hσ, hC, hD, hS, hm, hle, hB, hc, hh => by
    simp only [carry, Option.bind_eq_some_iff, Option.map_eq_some_iff] at hc
    obtain ⟨l, hl, x, hx, r, hr, rfl⟩ := hc
    have e1 : cthd (ctmk (t := .box s o t) (ts := cs) x r) = x := cthd_mk (t := .box s o t) x r
    have e2 : cttl (ctmk (t := .box s o t) (ts := cs) x r) = r := cttl_mk (t := .box s o t) x r
    simp only [head, Option.bind_eq_some_iff] at hh
    rw [e1, e2] at hh
    obtain ⟨σ1, hf, hh⟩ := hh
    simp only [List.length_cons] at hle
    simp only [ctLeaf] at hl
    split at hl
    · next b hs =>
      obtain ⟨cτ, hcτ, ho⟩ := Option.bind_eq_some_iff.1 hl
      have hst : ∀ b, stab F c0 w b → stab F c w b := fun b hb => hb.imp (fun h => h) fun h => ⟨h.1, h.2.1, (hD b).2 h.2.2⟩
      obtain ⟨h1, h2, h3⟩ := fillBox_ok hτ hσ rfl hB hs hcτ ho hf (fun v hv => by
        have hrep := as_stab hτ hv hx
        simp only [leafR]
        exact repL_mono (fun _ _ _ _ _ _ hh => ro_mono (fun b hb => ⟨hst b hb, rfl⟩) hh) hrep)
      refine fill_head hτ h1 hC hD (fun r g hg => ?_) (by omega) (by omega) (fun s b hs => hB s b (by rwa [h2] at hs)) hr hh
      have : σ.reg? r = some g := by unfold St.reg? at hg ⊢; rwa [h3] at hg
      exact (hS r g this).imp (fun h => h) fun h => ⟨h.1, by omega⟩
    · cases hl
  | .breg s o e ls d :: cs, id, y, τ, σ, σh, c0, c, bb, rv, rv', hτ, hσ, hC, hD, hS, hm, hle, hB, hc, hh => by
    simp only [carry, Option.bind_eq_some_iff, Option.map_eq_some_iff] at hc
    obtain ⟨l, hl, ⟨xs, τ'⟩, hx, r, hr, rfl⟩ := hc
    have e1 : cthd (ctmk (t := .breg s o e ls d) (ts := cs) xs r) = xs := cthd_mk (t := .breg s o e ls d) xs r
    have e2 : cttl (ctmk (t := .breg s o e ls d) (ts := cs) xs r) = r := cttl_mk (t := .breg s o e ls d) xs r
    simp only [head, Option.bind_eq_some_iff] at hh
    rw [e1, e2] at hh
    obtain ⟨σ1, hn, σ2, hf, hh⟩ := hh
    simp only [List.length_cons] at hle
    simp only [ctLeaf] at hl
    split at hl
    · next b hs =>
      obtain ⟨cτ, hcτ, ho⟩ := Option.bind_eq_some_iff.1 hl
      -- the cell's value
      obtain ⟨t, cur, b1, b2, b3, b4⟩ := hτ.boxes b cτ hcτ
      obtain ⟨v, hv, hlv⟩ := leafsR_get b3 ho
      obtain ⟨c', rv2, h1, h2, h3, h4, h5, h6, h7⟩ := rowC_ok hτ hσ hC hD hS ⟨hm, by omega⟩ hlv hx hn
      have hsl : σ1.slots = σ.slots := by
        unfold newReg at hn
        split at hn
        · injection hn with hn; subst hn; rfl
        · cases hn
      have hB1 : BoxSlots σ1 τ' := fun s b hs => by rw [h6]; exact hB s b (by rwa [hsl] at hs)
      have hsτ' : nth (.cell .junk) τ'.slots s = .cell (.box b 0) := by rw [h6]; exact hs
      -- the box
      have hfill : Rel F ⟨c', bb, rv2⟩ σ2 tmps w ∧ σ2.slots = σ1.slots ∧ σ2.regs = σ1.regs := by
        unfold fillBox at hf
        split at hf
        · next b' hs' =>
          have e := hB1 s b' hs'
          rw [hsτ'] at e
          have e' : b = b' := by simpa using e
          subst e'
          obtain ⟨cσ, hcσ, hf⟩ := Option.bind_eq_some_iff.1 hf
          obtain ⟨_, hf⟩ := bif_some hf
          injection hf with hf
          subst hf
          refine ⟨h2.cell hcσ fun cur' t' fr hcur v' hv' => ?_, rfl, rfl⟩
          rw [show (Gh.mk c' bb rv2).bb b = bb b from rfl, b1] at hcur
          injection hcur with hcur
          injection hcur with hcur
          subst hcur
          rw [hv] at hv'
          injection hv' with hv'
          subst hv'
          exact h5
        · cases hf
      obtain ⟨g1, g2, g3⟩ := hfill
      refine fill_head h1 g1 h3 h4 (fun r g hg => ?_) (by omega) (by omega) (fun s b hs => hB1 s b (by rwa [g2] at hs)) hr hh
      have hg' : σ1.reg? r = some g := by unfold St.reg? at hg ⊢; rwa [g3] at hg
      unfold newReg at hn
      split at hn
      · injection hn with hn
        subst hn
        rw [setReg_reg?] at hg'
        split at hg'
        · next e' => exact .inr ⟨by omega, by omega⟩
        · exact (hS r g hg').imp (fun h => h) fun h => ⟨h.1, by omega⟩
      · cases hn
    · cases hl
end
end Go.Ev
end

section
/- The small machine is true to the model, twenty-fourth part: code. -/
set_option linter.unusedVariables false
namespace Go.Ev
open Go.RowKit

section
variable {P : Program} {E : Env} {F : Fm} {G : Gh} {σ τ σ' σb σh : St} {w : World} {tmps : Array Value} {H : Nat → List CT}

theorem weakL_put2 : ∀ {l m : List Leaf} {o : Nat} (x : Leaf), weakL l m → nth .junk l o = .junk → weakL l (put m o x)
  | [], [], _, _, _, _ => trivial
  | [], _ :: _, _, _, h, _ => by simp [weakL] at h
  | _ :: _, [], _, _, h, _ => by simp [weakL] at h
  | a :: l, b :: m, 0, x, h, hj => ⟨.inl hj, h.2⟩
  | a :: l, b :: m, o + 1, x, h, hj => ⟨h.1, weakL_put2 x h.2 hj⟩
structure Filled (kept : List Nat) (m : Nat) (σb σ : St) : Prop where
  slots : ∀ i, i ∉ kept → nth (.cell .junk) σ.slots i = nth (.cell .junk) σb.slots i
  boxes : ∀ b c, look σb.boxes b = some c → ∃ c', look σ.boxes b = some c' ∧ weakL c c'
  boxN : ∀ b, (look σ.boxes b).isSome → (look σb.boxes b).isSome
  regs : ∀ r, r < m → σ.reg? r = σb.reg? r
  bs : BoxSlots σ σb
theorem filled_newReg {kept : List Nat} {m id : Nat} (h : Filled kept m σb σ) (hm : m ≤ id) {e : TypeId} {ls : List L} {xs : List (dens ls)} {app deep : Bool} (hn : newReg σ id e ls xs app deep = some σ') : Filled kept m σb σ' := by
  unfold newReg at hn
  split at hn
  · injection hn with hn
    subst hn
    exact ⟨h.slots, h.boxes, h.boxN, fun r hr => by rw [setReg_reg?, if_neg (by omega)]; exact h.regs r hr, h.bs⟩
  · cases hn
theorem filled_slot {kept : List Nat} {m s : Nat} {l : Leaf} (h : Filled kept m σb σ) (hl : ∀ b, l ≠ .box b 0) (hs : s ∈ kept) : Filled kept m σb (σ.setSlot (some s) (.cell l)) where
  slots i hi := by
    simp only [St.setSlot, nth_put]
    have hne : ¬ (s = i ∧ s < σ.slots.length) := fun e => by
      obtain ⟨rfl, _⟩ := e
      exact hi hs
    rw [if_neg hne]
    exact h.slots i hi
  boxes := h.boxes
  boxN := h.boxN
  regs r hr := by rw [setSlot_reg?]; exact h.regs r hr
  bs := h.bs.set hl
theorem filled_box {kept : List Nat} {m s o : Nat} {x : Leaf} (h : Filled kept m σb σ) (hj : ∀ b, nth (.cell .junk) σb.slots s = .cell (.box b 0) → ∀ c, look σb.boxes b = some c → nth .junk c o = .junk) (hf : fillBox σ s o x = some σ') : Filled kept m σb σ' := by
  unfold fillBox at hf
  split at hf
  · next b hs =>
    obtain ⟨c, hc, hf⟩ := Option.bind_eq_some_iff.1 hf
    obtain ⟨_, hf⟩ := bif_some hf
    injection hf with hf
    subst hf
    refine ⟨h.slots, fun b' c' hc' => ?_, fun b' hb' => ?_, h.regs, h.bs⟩
    · obtain ⟨c2, h2, w2⟩ := h.boxes b' c' hc'
      rw [setBox_look]
      split
      · next e =>
        subst e
        rw [hc] at h2
        injection h2 with h2
        subst h2
        exact ⟨_, rfl, weakL_put2 x w2 (hj b (h.bs s b hs) c' hc')⟩
      · exact ⟨c2, h2, w2⟩
    · rw [setBox_look] at hb'
      split at hb'
      · next e => subst e; exact h.boxN b (by rw [hc]; rfl)
      · exact h.boxN b' hb'
  · cases hf
theorem head_filled {m : Nat} {kept : List Nat} {all : List CT} (hj : ∀ t ∈ all, ∀ s o, boxAt t = some (s, o) → ∀ b, nth (.cell .junk) σb.slots s = .cell (.box b 0) → ∀ c, look σb.boxes b = some c → nth .junk c o = .junk) :
    ∀ {cs : List CT} {id : Nat} {y : cts cs} {σ σh : St}, Filled kept m σb σ → m ≤ id → (∀ t ∈ cs, t ∈ all) → (∀ s ∈ keptSlots cs, s ∈ kept) → head id cs y σ = some σh → Filled kept m σb σh
  | [], id, y, σ, σh, h, _, _, _, hh => by
    simp only [head, Option.some.injEq] at hh
    subst hh; exact h
  | .val s t :: cs, id, y, σ, σh, h, hm, ha, hk, hh => by
    simp only [head] at hh
    exact head_filled hj (filled_slot h (by simp) (hk s (by simp [keptSlots]))) (by omega) (fun t ht => ha t (List.mem_cons_of_mem _ ht)) (fun s' hs' => hk s' (by simp [keptSlots, hs'])) hh
  | .reg s e ls a d :: cs, id, y, σ, σh, h, hm, ha, hk, hh => by
    simp only [head, Option.bind_eq_some_iff] at hh
    obtain ⟨σ1, hn, hh⟩ := hh
    exact head_filled hj (filled_slot (filled_newReg h hm hn) (by simp) (hk s (by simp [keptSlots]))) (by omega) (fun t ht => ha t (List.mem_cons_of_mem _ ht)) (fun s' hs' => hk s' (by simp [keptSlots, hs'])) hh
  | .box s o t :: cs, id, y, σ, σh, h, hm, ha, hk, hh => by
    simp only [head, Option.bind_eq_some_iff] at hh
    obtain ⟨σ1, hn, hh⟩ := hh
    exact head_filled hj (filled_box h (hj _ (ha _ List.mem_cons_self) s o rfl) hn) (by omega) (fun t ht => ha t (List.mem_cons_of_mem _ ht)) (fun s' hs' => hk s' (by simpa [keptSlots] using hs')) hh
  | .breg s o e ls d :: cs, id, y, σ, σh, h, hm, ha, hk, hh => by
    simp only [head, Option.bind_eq_some_iff] at hh
    obtain ⟨σ1, hn, σ2, hn2, hh⟩ := hh
    exact head_filled hj (filled_box (filled_newReg h hm hn) (hj _ (ha _ List.mem_cons_self) s o rfl) hn2) (by omega) (fun t ht => ha t (List.mem_cons_of_mem _ ht)) (fun s' hs' => hk s' (by simpa [keptSlots] using hs')) hh

theorem put_length {α : Type} (l : List α) (o : Nat) (x : α) : (put l o x).length = l.length := length_put x l o
theorem ext_fillBox {D : List Nat} {s o : Nat} {x : Leaf} (h : fillBox σ s o x = some σ') : Ext D σ σ' := by
  unfold fillBox at h
  split at h
  · next b hs =>
    obtain ⟨c, hc, h⟩ := Option.bind_eq_some_iff.1 h
    obtain ⟨_, h⟩ := bif_some h
    injection h with h
    subst h
    exact Ext.setBox fun c' hc' => by rw [hc] at hc'; injection hc' with hc'; subst hc'; exact put_length _ _ _
  · cases h
theorem ext_head {D : List Nat} : ∀ {cs : List CT} {id : Nat} {y : cts cs} {σ σh : St}, (∀ s ∈ keptSlots cs, s ∈ D) → head id cs y σ = some σh → Ext D σ σh
  | [], id, y, σ, σh, _, hh => by
    simp only [head, Option.some.injEq] at hh
    subst hh; exact Ext.refl _ _
  | .val s t :: cs, id, y, σ, σh, hk, hh => by
    simp only [head] at hh
    exact (Ext.setSlot fun i hi => by injection hi with hi; subst hi; exact hk s (by simp [keptSlots])).trans (ext_head (fun s' hs' => hk s' (by simp [keptSlots, hs'])) hh)
  | .reg s e ls a d :: cs, id, y, σ, σh, hk, hh => by
    simp only [head, Option.bind_eq_some_iff] at hh
    obtain ⟨σ1, hn, hh⟩ := hh
    exact ((ext_newReg hn).trans (Ext.setSlot fun i hi => by injection hi with hi; subst hi; exact hk s (by simp [keptSlots]))).trans (ext_head (fun s' hs' => hk s' (by simp [keptSlots, hs'])) hh)
  | .box s o t :: cs, id, y, σ, σh, hk, hh => by
    simp only [head, Option.bind_eq_some_iff] at hh
    obtain ⟨σ1, hn, hh⟩ := hh
    exact (ext_fillBox hn).trans (ext_head (fun s' hs' => hk s' (by simpa [keptSlots] using hs')) hh)
  | .breg s o e ls d :: cs, id, y, σ, σh, hk, hh => by
    simp only [head, Option.bind_eq_some_iff] at hh
    obtain ⟨σ1, hn, σ2, hn2, hh⟩ := hh
    exact ((ext_newReg hn).trans (ext_fillBox hn2)).trans (ext_head (fun s' hs' => hk s' (by simpa [keptSlots] using hs')) hh)

theorem ext_giveUps {D : List Nat} {σ0 : St} : ∀ {cs : List CT} {σ σ' : St}, giveUps σ0 cs σ = some σ' → Ext D σ σ'
  | [], σ, σ', h => by
    simp only [giveUps, Option.some.injEq] at h
    subst h; exact Ext.refl _ _
  | .val _ _ :: cs, σ, σ', h | .box _ _ _ :: cs, σ, σ', h => by
    simp only [giveUps] at h
    exact ext_giveUps h
  | .reg s e ls a d :: cs, σ, σ', h | .breg s o e ls d :: cs, σ, σ', h => by
    simp only [giveUps, Option.bind_eq_some_iff] at h
    obtain ⟨l, _, σ1, hg, h⟩ := h
    refine Ext.trans ?_ (ext_giveUps h)
    unfold giveUp at hg
    split at hg
    · injection hg with hg; subst hg; exact Ext.setReg _ _
    · injection hg with hg; subst hg; exact Ext.refl _ _
    · cases hg
theorem ext_junkBoxes {D : List Nat} : ∀ {cs : List CT} {σ σ' : St}, junkBoxes cs σ = some σ' → Ext D σ σ'
  | [], σ, σ', h => by
    simp only [junkBoxes, Option.some.injEq] at h
    subst h; exact Ext.refl _ _
  | .val _ _ :: cs, σ, σ', h | .reg _ _ _ _ _ :: cs, σ, σ', h => by
    simp only [junkBoxes] at h
    exact ext_junkBoxes h
  | .box s o _ :: cs, σ, σ', h | .breg s o _ _ _ :: cs, σ, σ', h => by
    simp only [junkBoxes, Option.bind_eq_some_iff] at h
    obtain ⟨σ1, hj, h⟩ := h
    refine Ext.trans ?_ (ext_junkBoxes h)
    unfold junkBox at hj
    split at hj
    · next b hs =>
      obtain ⟨c, hc, rfl⟩ := Option.map_eq_some_iff.1 hj
      exact Ext.setBox fun c' hc' => by rw [hc] at hc'; injection hc' with hc'; subst hc'; exact put_length _ _ _
    · cases hj
theorem ext_base {cs : List CT} {D : List Nat} (h : base cs D σ = some σb) : Ext D σ σb := by
  unfold base at h
  obtain ⟨σ1, h1, h⟩ := Option.bind_eq_some_iff.1 h
  obtain ⟨σ2, h2, rfl⟩ := Option.map_eq_some_iff.1 h
  have e := (ext_giveUps (D := D) h1).trans (ext_junkBoxes h2)
  exact ⟨fun i hi => ((junkAll_spec _ _ i).2.1 hi).trans (e.slots i hi), e.boxes, e.regs, e.len, (junkAll_length _ _).trans e.ns⟩

theorem tkAs_take {α β : Type} : ∀ (m : List β) (l : List α), m.length ≤ l.length → tkAs m l = some (l.take m.length)
  | [], l, _ => by cases l <;> simp [tkAs]
  | _ :: m, [], h => by simp at h
  | _ :: m, a :: l, h => by simp [tkAs, tkAs_take m l (by simpa using h)]
theorem skip_length {α β : Type} : ∀ (m : List β) (l : List α), (skip m l).length = l.length - m.length
  | [], l => by simp [skip]
  | _ :: m, [] => by simp [skip]
  | _ :: m, _ :: l => by simp [skip, skip_length m l]
theorem ahead_append {α : Type} (b m : List α) : ahead m (b ++ m) = b := by
  unfold ahead
  rw [tkAs_take _ _ (by rw [skip_length]; omega), skip_length]
  simp
theorem allB_mem {α : Type} {f : α → Bool} : ∀ {l : List α} {a : α}, allB f l = true → a ∈ l → f a = true
  | b :: l, a, h, ha => by
    obtain ⟨h1, h2⟩ := allB_cons h
    rcases List.mem_cons.1 ha with rfl | ha
    · exact h1
    · exact allB_mem h2 ha
theorem anyB_mem {α : Type} {f : α → Bool} : ∀ {l : List α}, anyB f l = true → ∃ a ∈ l, f a = true
  | [], h => by simp [anyB] at h
  | b :: l, h => by
    simp only [anyB, Bool.or_eq_true] at h
    rcases h with h | h
    · exact ⟨b, by simp, h⟩
    · obtain ⟨a, ha, h⟩ := anyB_mem h
      exact ⟨a, by simp [ha], h⟩
theorem allAt_get {α : Type} {f : Nat → Bool} : ∀ {l : List α} {n i : Nat}, allAt f n l = true → i < l.length → f (n + i) = true
  | [], n, i, _, h => by simp at h
  | a :: l, n, 0, h, _ => by simp only [allAt, Bool.and_eq_true] at h; exact h.1
  | a :: l, n, i + 1, h, hi => by
    simp only [allAt, Bool.and_eq_true] at h
    have := allAt_get (i := i) h.2 (by simpa using hi)
    rwa [Nat.add_assoc, Nat.add_comm 1 i] at this
theorem look_isSome_append {α : Type} : ∀ {rs l : List (Nat × α)} {k : Nat}, (look l k).isSome → (look (rs ++ l) k).isSome
  | [], l, k, h => h
  | (n, a) :: rs, l, k, h => by
    rw [List.cons_append, look_cons]
    exact isSome_if (look_isSome_append h)
theorem base_holes {m r : Nat} {g : Reg} (hk : allB (fun p : Nat × Option Reg => Nat.ble (Nat.succ p.1) m && noHo p.2) σb.regs = true) (hg : σb.reg? r = some g) : g.holes = [] := by
  unfold St.reg? at hg
  cases hl : look σb.regs r with
  | none => rw [hl] at hg; cases hg
  | some x =>
    rw [hl] at hg
    have : x = some g := hg
    subst this
    exact noH_nil (Bool.and_eq_true _ _ ▸ allB_mem (f := fun p : Nat × Option Reg => Nat.ble (Nat.succ p.1) m && noHo p.2) hk (look_key hl)).2
theorem back_rel {cs : List CT} {D : List Nat} {n : Nat} {y : cts cs} (hb : Base D σ σb) (hn : (∀ i, slotN σb (nth (.cell .junk) σb.slots i)) ∧ ∀ b c, look σb.boxes b = some c → leafsN σb c)
    (hj : ∀ t ∈ cs, ∀ s o, boxAt t = some (s, o) → ∃ b, nth (.cell .junk) σ.slots s = .cell (.box b 0) ∧ ∀ c, look σb.boxes b = some c → nth .junk c o = .junk) (hok : headOk (n * 65536) cs D σb = true)
    (hh : head (n * 65536) cs y σb = some σh) (he : Ext D σh σ') (hr : roundOk n cs σb σh σ' = true) (h : Rel F G σ' tmps w) (hlen : σb.slots.length = tmps.size) : Rel F G σb tmps w ∧ BoxSlots σb σ' := by
  simp only [headOk, Bool.and_eq_true] at hok
  obtain ⟨⟨⟨⟨_, hkb⟩, hkr⟩, hkept⟩, _⟩ := hok
  have hkept' : ∀ s ∈ keptSlots cs, s ∈ D := fun s hs => memN_iff.1 (allB_mem (f := fun s => memN s D) hkept hs)
  have hj' : ∀ t ∈ cs, ∀ s o, boxAt t = some (s, o) → ∀ b, nth (.cell .junk) σb.slots s = .cell (.box b 0) → ∀ c, look σb.boxes b = some c → nth .junk c o = .junk := fun t ht s o hso b hs c hc => by
    obtain ⟨b', h1, h2⟩ := hj t ht s o hso
    have hs' : s ∉ D := fun hm => by rw [hb.hit s hm] at hs; simp at hs
    rw [hb.miss s hs', h1] at hs
    have : b' = b := by simpa using hs
    subst this
    exact h2 c hc
  have hF : Filled (keptSlots cs) (n * 65536) σb σh := head_filled hj' ⟨fun _ _ => rfl, fun b c h => ⟨c, h, weakL_refl c⟩, fun _ h => h, fun _ _ => rfl, fun _ _ h => h⟩ (Nat.le_refl _) (fun t ht => ht) (fun s hs => hs) hh
  simp only [roundOk, Bool.and_eq_true] at hr
  obtain ⟨hr1, hr2⟩ := hr
  obtain ⟨bs, hbs⟩ := he.boxes
  obtain ⟨rs, hrs⟩ := he.regs
  rw [hbs, ahead_append] at hr1
  rw [hrs, ahead_append] at hr2
  have hslot : ∀ i, i ∉ D → nth (.cell .junk) σb.slots i = nth (.cell .junk) σ'.slots i := fun i hi =>
    ((he.slots i hi).trans (hF.slots i fun hk => hi (hkept' i hk))).symm
  refine ⟨h.weaken (fun i => ?_) hn.1 (fun b c hc => ⟨hn.2 b c hc, ?_⟩) (fun r g hg => ?_) (hlen.trans h.nslots.symm) (fun r g hg => holesIn_nil (base_holes hkr hg)), fun s b hs => ?_⟩
  · by_cases hi : i ∈ D
    · exact .inl (hb.hit i hi)
    · exact .inr (hslot i hi)
  · obtain ⟨ch, h1, w1⟩ := hF.boxes b c hc
    obtain ⟨c', h2, l2⟩ := he.len b ch h1
    refine ⟨c', h2, ?_⟩
    by_cases hk : ∀ p ∈ bs, p.1 ≠ b
    · rw [hbs, look_append hk] at h2
      rw [h1] at h2
      injection h2 with h2
      subst h2
      exact w1
    · obtain ⟨p, hp, rfl⟩ : ∃ p ∈ bs, p.1 = b := by
        apply Classical.byContradiction
        intro hh2
        exact hk fun p hp e => hh2 ⟨p, hp, e⟩
      have hcar : boxCarried σb cs p.1 = true := by
        have := allB_mem hr1 hp
        simp only [Bool.or_eq_true] at this
        rcases this with h3 | h3
        · have h4 := Nat.le_of_ble_eq_true h3
          have h5 := allB_mem hkb (look_key hc)
          simp only [Bool.and_eq_true] at h5
          have h6 : p.1 + 1 ≤ n * 65536 := Nat.le_of_ble_eq_true h5.2
          omega
        · exact h3
      unfold boxCarried at hcar
      rw [hc] at hcar
      simp only at hcar
      refine weakL_junk ((weakL_len w1).trans l2.symm) fun i hi => ?_
      have hat := allAt_get hcar hi
      rw [Nat.zero_add] at hat
      obtain ⟨t, ht, htb⟩ := anyB_mem hat
      cases t with
      | val s t => cases htb
      | reg s e ls => cases htb
      | box s o t =>
        simp only [Bool.and_eq_true] at htb
        obtain ⟨e1, e2⟩ := htb
        have e1 := beq_nat e1
        subst e1
        split at e2
        · next b' hs =>
          have e2 := beq_nat e2
          rw [← e2] at hs
          exact hj' _ ht s i rfl _ hs c hc
        · cases e2
      | breg s o e ls d =>
        simp only [Bool.and_eq_true] at htb
        obtain ⟨e1, e2⟩ := htb
        have e1 := beq_nat e1
        subst e1
        split at e2
        · next b' hs =>
          have e2 := beq_nat e2
          rw [← e2] at hs
          exact hj' _ ht s i rfl _ hs c hc
        · cases e2
  · -- rows
    have hlk : ∃ x, look σb.regs r = some x := by
      unfold St.reg? at hg
      cases hl : look σb.regs r with
      | none => rw [hl] at hg; cases hg
      | some x => exact ⟨x, rfl⟩
    obtain ⟨x, hx⟩ := hlk
    have hrm : r + 1 ≤ n * 65536 := Nat.le_of_ble_eq_true (Bool.and_eq_true _ _ ▸ allB_mem (f := fun p : Nat × Option Reg => Nat.ble (Nat.succ p.1) (n * 65536) && noHo p.2) hkr (look_key hx)).1
    have hσh := hF.regs r (by omega)
    unfold St.reg? at hσh hg ⊢
    rw [hrs, look_append fun p hp e => ?_]
    · rw [hσh]; exact hg
    · have := Nat.le_of_ble_eq_true (allB_mem (f := fun p : Nat × Option Reg => Nat.ble (n * 65536) p.1) hr2 hp)
      rw [e] at this
      omega
  · by_cases hi : s ∈ D
    · rw [hb.hit s hi] at hs; simp at hs
    · rw [← hslot s hi]; exact hs
end
end Go.Ev
end

section
/- The small machine is true to the model, twenty-fifth part: code, functions. -/
set_option linter.unusedVariables false
namespace Go.Ev
open Go.RowKit

section
variable {P : Program} {E : Env} {F : Fm} {G : Gh} {σ τ σ' σb σh : St} {a : Act} {w : World} {tmps : Array Value} {H : Nat → List CT}

def InLoop (P : Program) (c : Code) (Q : Exit → Act → World → Prop) (a : Act) (w : World) : Prop := ∀ (b : Frame) (k : List Item) (cs : List Frame),
  ∃ e a' w', Q e a' w' ∧ Arrives P (lone (b.at a (.code c :: .inLoop c :: k)) cs w) b k cs e a' w'
theorem inLoop_round {c : Code} {Q : Exit → Act → World → Prop} (h : c.wp P (Exit.then (InLoop P c Q) Q) a w) : InLoop P c Q a w := by
  intro b k cs
  obtain ⟨e, a₁, w₁, hq, harr⟩ := h b (.inLoop c :: k) cs
  cases e with
  | normal =>
    obtain ⟨e₂, a₂, w₂, hq₂, harr₂⟩ := hq b k cs
    exact ⟨e₂, a₂, w₂, hq₂, .of_steps (Steps.trans harr (.one step_inLoop)) harr₂⟩
  | exit id => exact ⟨_, a₁, w₁, hq, .pass (x := .inLoop c) rfl (fun _ _ => .inl (by simp)) harr⟩
  | goto l => exact ⟨_, a₁, w₁, hq, .pass (x := .inLoop c) rfl (fun _ _ => .inl (by simp)) harr⟩
  | ret => exact ⟨_, a₁, w₁, hq, .pass (x := .inLoop c) rfl (fun _ _ => .inl (by simp)) harr⟩
  | panic ch => exact ⟨_, a₁, w₁, hq, .pass (x := .inLoop c) rfl (fun _ _ => .inl (by simp)) harr⟩
  | outgrown => exact ⟨_, a₁, w₁, hq, .pass (x := .inLoop c) rfl (fun _ _ => .inl (by simp)) harr⟩
theorem wp_of_inLoop {c : Code} {Q : Exit → Act → World → Prop} (h : InLoop P c Q a w) : (Code.loop c).wp P Q a w := fun b k cs =>
  let ⟨e, a', w', hq, harr⟩ := h b k cs
  ⟨e, a', w', hq, .of_steps (.one step_loop) harr⟩

def exOf : Ex → Exit
  | .normal => .normal
  | .exit id => .exit id
  | .ret => .ret

def Carried (F : Fm) (m : Nat) (σb : St) (cs : List CT) (y : cts cs) (a : Act) (w : World) : Prop :=
  ∃ τ G, Rel F G τ a.tmps w ∧ Rel F G σb a.tmps w ∧ BoxSlots σb τ ∧ carry m σb m τ cs = some y ∧ Calm F a

theorem mem_append_left {l m : List Nat} : ∀ {i : Nat}, i ∈ l → i ∈ app l m := by
  induction l with
  | nil => intro i h; cases h
  | cons a l ih =>
    intro i h
    simp only [app]
    rcases List.mem_cons.1 h with rfl | h
    · simp
    · exact List.mem_cons_of_mem _ (ih h)
theorem mem_append_right {l m : List Nat} : ∀ {i : Nat}, i ∈ m → i ∈ app l m := by
  induction l with
  | nil => intro i h; simpa [app] using h
  | cons a l ih => intro i h; simp only [app]; exact List.mem_cons_of_mem _ (ih h)

theorem evalCode_ok (hE : EnvOk P E) (hC : EnvCts P E F.w0 F.n0) : ∀ (c : Code) {n : Nat} {σ : St} {a : Act} {w : World} {K : Ex → Nat → St → Prop} {Q : Exit → Act → World → Prop}, (∀ d ∈ pdsts c, F.free d) → Ok F σ a w → evalCode E H c n σ K →
    (∀ e n' σ' a' w', K e n' σ' → Ok F σ' a' w' → Ext (dsts H c) σ σ' → Q (exOf e) a' w') → c.wp P Q a w := by
  intro c
  induction c with
  | skip =>
    intro n σ a w K Q hX h hs hK
    exact wp_skip (hK .normal n σ a w hs h (Ext.refl _ _))
  | region id ops dr =>
    intro n σ a w K Q hX h hs hK
    cases dr with
    | true =>
      have hs0 : (match look E.ord id with
        | none => bif drawOk E ops && (allB (fun q : Nat × Option Reg => Nat.ble (Nat.succ q.1) (n * 65536)) σ.regs && allB (fun q : Nat × List Leaf => Nat.ble (Nat.succ q.1) (n * 65536)) σ.boxes) then evalDraw E ops.toList (tk (preLen E ops.toList) ops.toList) 0 (n * 65536) σ (fun σ' => evalSeq E (dp ops.toList (preLen E ops.toList)) (n * 65536 + 256 * preLen E ops.toList) σ' fun σ' => K .normal (n + 1) σ') else False
        | some (π, k) => match permL π ops.toList π with
          | none => False
          | some l => bif permOk π ops.toList && Nat.ble k l.length && drawAt E true l k && (allB (fun q : Nat × Option Reg => Nat.ble (Nat.succ q.1) (n * 65536)) σ.regs && allB (fun q : Nat × List Leaf => Nat.ble (Nat.succ q.1) (n * 65536)) σ.boxes) then evalDraw E l (tk k l) 0 (n * 65536) σ (fun σ' => evalSeq E (dp l k) (n * 65536 + 256 * k) σ' fun σ' => K .normal (n + 1) σ') else False) := hs
      have bsplit : ∀ {b : Bool} {p : Prop}, (bif b then p else False) → b = true ∧ p := fun {b p} h => by
        cases b with
        | true => exact ⟨rfl, h⟩
        | false => exact h.elim
      clear hs
      cases ho : look E.ord id with
      | none =>
        rw [ho] at hs0
        obtain ⟨hb, hs⟩ := bsplit hs0
        simp only [Bool.and_eq_true] at hb
        exact draw_ok hE hC hX h hb.1 hb.2.1 hb.2.2 hs fun σ' a' w' hk hok hext => hK .normal (n + 1) σ' a' w' hk hok hext
      | some q =>
        obtain ⟨π, k⟩ := q
        rw [ho] at hs0
        simp only at hs0
        cases hl : permL π ops.toList π with
        | none => rw [hl] at hs0; exact hs0.elim
        | some l =>
          rw [hl] at hs0
          obtain ⟨hb, hs⟩ := bsplit hs0
          simp only [Bool.and_eq_true] at hb
          exact draw_okP hE hC hl hb.1.1.1 (Nat.le_of_ble_eq_true hb.1.1.2) hX h hb.1.2 hb.2.1 hb.2.2 hs fun σ' a' w' hk hok hext => hK .normal (n + 1) σ' a' w' hk hok hext
    | false =>
      exact region_ok hE hC hX h hs fun σ' a' w' hk hok hext => hK .normal (n + 1) σ' a' w' hk hok hext
  | seq c1 c2 ih1 ih2 =>
    intro n σ a w K Q hX h hs hK
    refine wp_seq (ih1 (fun d hd => hX d (mem_append_left hd)) h hs fun e n' σ' a' w' hk hok hext => ?_)
    have he1 : Ext (dsts H (.seq c1 c2)) σ σ' := hext.mono fun i hi => mem_append_left hi
    cases e with
    | normal => exact ih2 (fun d hd => hX d (mem_append_right hd)) hok hk fun e2 n2 σ2 a2 w2 hk2 hok2 hext2 => hK e2 n2 σ2 a2 w2 hk2 hok2 (he1.trans (hext2.mono fun i hi => mem_append_right hi))
    | exit id => exact hK _ n' σ' a' w' hk hok he1
    | ret => exact hK _ n' σ' a' w' hk hok he1
  | cond x c1 c2 ih1 ih2 =>
    intro n σ a w K Q hX h hs hK
    have hs : (match σ.op x with
      | .cell l => brP l (evalCode E H c1 n σ K) (evalCode E H c2 n σ K) (fun p => (p → evalCode E H c1 n σ K) ∧ (¬ p → evalCode E H c2 n σ K))
      | _ => False) := hs
    have l1 : evalCode E H c1 n σ K → c1.wp P Q a w := fun hh => ih1 (fun d hd => hX d (mem_append_left hd)) h hh fun e n' σ' a' w' hk hok hext => hK e n' σ' a' w' hk hok (hext.mono fun i hi => mem_append_left hi)
    have l2 : evalCode E H c2 n σ K → c2.wp P Q a w := fun hh => ih2 (fun d hd => hX d (mem_append_right hd)) h hh fun e n' σ' a' w' hk hok hext => hK e n' σ' a' w' hk hok (hext.mono fun i hi => mem_append_right hi)
    split at hs
    · next l hl =>
      obtain ⟨G, hR, hd⟩ := h
      have hop := op_ok hR x
      rw [hl] at hop
      simp only [slotR] at hop
      obtain ⟨b, hb, hres⟩ := brP_ok (R := fun b => (if b then c1 else c2).wp P Q a w) hop hs (fun _ hT _ => l1 hT) (fun _ hF _ => l2 hF) (fun p hS ⟨d, hv⟩ => by
        refine ⟨@decide p d, hv, ?_⟩
        cases d with
        | isTrue hp => exact l1 (hS.1 hp)
        | isFalse hp => exact l2 (hS.2 hp))
      exact wp_cond hb hres
    · exact hs.elim
  | block id c ih =>
    intro n σ a w K Q hX h hs hK
    refine wp_block (ih hX h hs fun e n' σ' a' w' hk hok hext => ?_)
    cases e with
    | normal => exact hK .normal n' σ' a' w' hk hok hext
    | exit i =>
      simp only at hk
      simp only [exOf, Exit.inBlock]
      cases hb : Nat.beq i id with
      | true =>
        rw [hb] at hk
        rw [if_pos (beq_nat hb)]
        exact hK .normal n' σ' a' w' hk hok hext
      | false =>
        rw [hb] at hk
        rw [if_neg fun e => by rw [e, Nat.beq_refl] at hb; cases hb]
        exact hK (.exit i) n' σ' a' w' hk hok hext
    | ret => exact hK .ret n' σ' a' w' hk hok hext
  | loop c ih =>
    intro n σ a w K Q hX h hs hK
    simp only [evalCode] at hs
    split at hs
    · exact hs.elim
    · next σb hbase =>
      split at hs
      · exact hs.elim
      · next y₀ hy₀ =>
        cases hok : headOk (n * 65536) (H (firstRegion c)) (dsts H (.loop c)) σb with
        | false => rw [hok] at hs; exact hs.elim
        | true =>
          rw [hok] at hs
          simp only [Bool.not_true, cond_false] at hs
          obtain ⟨G, hR, hd⟩ := h
          obtain ⟨hb, hj⟩ := base_ok hbase
          have hnm := hb.named hR
          have hRb : Rel F G σb a.tmps w := hR.weaken (fun i => by
              by_cases hi : i ∈ dsts H (.loop c)
              · exact .inl (hb.hit i hi)
              · exact .inr (hb.miss i hi)) hnm.1 (fun b c' hc' => ⟨hnm.2 b c' hc', hb.boxes b c' hc'⟩) hb.regs hb.len (fun r g hg x hx => by
                obtain ⟨rs, hrs⟩ := (ext_base hbase).regs
                have := hR.hol r g (hb.regs r g hg) x hx
                rw [hrs]
                exact look_isSome_append this)
          have hlen : (H (firstRegion c)).length ≤ 65536 := by
            have := hok
            simp only [headOk, Bool.and_eq_true] at this
            exact Nat.le_of_ble_eq_true this.2
          have hkept : ∀ s ∈ keptSlots (H (firstRegion c)), s ∈ dsts H (.loop c) := fun s hs => by
            have := hok
            simp only [headOk, Bool.and_eq_true] at this
            exact memN_iff.1 (allB_mem (f := fun s => memN s (dsts H (.loop c))) this.1.2 hs)
          have hext0 : Ext (dsts H (.loop c)) σ σb := ext_base hbase
          have hsize : σb.slots.length = a.tmps.size := hRb.nslots
          refine wp_of_inLoop (hs (fun y => ∀ a w, Carried F (n * 65536) σb (H (firstRegion c)) y a w → InLoop P c Q a w) (fun y hy a1 w1 hcar => ?_) a w
            ⟨σ, G, hR, hRb, fun s b hs => by
              by_cases hi : s ∈ dsts H (.loop c)
              · rw [hb.hit s hi] at hs; simp at hs
              · rw [← hb.miss s hi]; exact hs, hy₀, hd⟩)
          obtain ⟨τ, G1, hRτ, hRσ, hB, hc, hd1⟩ := hcar
          split at hy
          · exact hy.elim
          · next σh hh =>
            obtain ⟨G2, hR2⟩ := fill_head hRτ hRσ (fun b => .inl rfl) (fun b => Iff.rfl) (fun r g hg => .inl hg) (Nat.le_refl _) (by omega) hB hc hh
            have hexth : Ext (dsts H (.loop c)) σb σh := ext_head hkept hh
            refine inLoop_round (ih hX ⟨G2, hR2, hd1⟩ hy fun e n' σ' a' w' hk hok2 hext0' => ?_)
            have hext : Ext (dsts H (.loop c)) σh σ' := hext0'.mono fun i hi => mem_append_left hi
            have hall : Ext (dsts H (.loop c)) σ σ' := (hext0.trans hexth).trans hext
            cases e with
            | exit id => exact hK _ n' σ' a' w' hk hok2 hall
            | ret => exact hK _ n' σ' a' w' hk hok2 hall
            | normal =>
              simp only at hk
              split at hk
              · next y' hy' =>
                obtain ⟨G3, hR3, hd3⟩ := hok2
                unfold back at hy'
                obtain ⟨hround, hcarry⟩ := bif_some hy'
                have hsz : σb.slots.length = a'.tmps.size := by rw [← hR3.nslots, hext.ns, hexth.ns]
                obtain ⟨g1, g2⟩ := back_rel hb hnm hj hok hh hext hround hR3 hsz
                exact hk a' w' ⟨σ', G3, hR3, g1, g2, hcarry, hd3⟩
              · exact hk.elim
  | exit id =>
    intro n σ a w K Q hX h hs hK
    exact wp_exit (hK (.exit id) n σ a w hs h (Ext.refl _ _))
  | ret =>
    intro n σ a w K Q hX h hs hK
    exact wp_ret (hK .ret n σ a w hs h (Ext.refl _ _))
  | rangeFunc _ _ _ _ _ _ => intro n σ a w K Q hX h hs hK; exact hs.elim
  | scope _ _ => intro n σ a w K Q hX h hs hK; exact hs.elim
  | label _ => intro n σ a w K Q hX h hs hK; exact hs.elim
  | goto _ => intro n σ a w K Q hX h hs hK; exact hs.elim
  | refuse _ => intro n σ a w K Q hX h hs hK; exact hs.elim
end
end Go.Ev
end

section
/- The small machine is true to the model, twenty-sixth part: results, and a function's contract. -/
set_option linter.unusedVariables false
namespace Go.Ev
open Go.RowKit

section
variable {P : Program} {E : Env} {F : Fm} {G : Gh} {σ τ σ' σ0 : St} {a : Act} {w : World} {tmps : Array Value} {H : Nat → List CT}

theorem shared_ok {dp : Bool} (h : Rel F G σ tmps w) {S' : Nat → Prop} {col : Nat → Option Col} (hsu : Suits F G w true [] S' col) : ∀ {ts : List L} {ls : List Leaf} {x : dens ts} {us : List Value} (j : Nat), leafsR (stab F G.c w) G σ w ls us → asAll σ ts ls = some x → outR S' col w true dp j ts x us
  | [], [], x, us, j, hl, ha => by simpa [outR, leafsR] using hl
  | [], _ :: _, x, us, j, hl, ha => by simp [asAll] at ha
  | _ :: _, [], x, us, j, hl, ha => by simp [asAll] at ha
  | .list e els :: ts, l :: ls, x, us, j, hl, ha => by
    simp only [leafsR] at hl
    obtain ⟨v, vs', rfl, h1, h2⟩ := hl
    simp only [asAll, Option.bind_eq_some_iff, Option.map_eq_some_iff] at ha
    obtain ⟨x1, ha, xr, hr, rfl⟩ := ha
    simp only [outR]
    refine ⟨v, vs', rfl, ?_, by rw [tl_mk]; exact shared_ok h hsu (j + 1) h2 hr⟩
    simp only [if_true]
    rw [hd_mk]
    exact as_in h hsu.1 (hsu.2.1 rfl) h1 ha
  | .int k :: ts, l :: ls, x, us, j, hl, ha | .bool :: ts, l :: ls, x, us, j, hl, ha | .str :: ts, l :: ls, x, us, j, hl, ha => by
    simp only [leafsR] at hl
    obtain ⟨v, vs', rfl, h1, h2⟩ := hl
    simp only [asAll, Option.bind_eq_some_iff, Option.map_eq_some_iff] at ha
    obtain ⟨x1, ha, xr, hr, rfl⟩ := ha
    simp only [outR]
    refine ⟨v, vs', rfl, ?_, by rw [tl_mk]; exact shared_ok h hsu j h2 hr⟩
    rw [hd_mk]
    exact repL_flat rfl (as_now h h1 ha)

def resRun (tmps : Array Value) : ResultVar → Sem Value
  | .tmp t => pure (tmps.getD t undef)
  | .cell a t => do loadVar t (← asAddr (tmps.getD a undef))
theorem resOf_ok (hE : EnvOk P E) (h : Rel F G σ tmps w) {agg : Bool} {rv : ResultVar} {ls : List Leaf} (hr : resOf E σ agg rv = some ls) : ∃ v cs, (resRun tmps rv).run P w = .ok v w ∧ slotV agg cs v ∧ leafsR (stab F G.c w) G σ w ls cs := by
  cases rv with
  | tmp t =>
    simp only [resOf] at hr
    have hs := h.slots t
    split at hr
    · next l hl =>
      rw [hl] at hs
      simp only [slotR] at hs
      cases agg with
      | true => cases hr
      | false =>
        injection hr with hr
        subst hr
        exact ⟨tmps.getD t undef, [tmps.getD t undef], by simp [resRun], by simp [slotV], by simp only [leafsR]; exact ⟨_, [], rfl, hs, rfl⟩⟩
    · next ls' hl =>
      rw [hl] at hs
      simp only [slotR] at hs
      obtain ⟨cs, hv, hc, _⟩ := hs
      cases agg with
      | false => cases hr
      | true =>
        injection hr with hr
        subst hr
        exact ⟨tmps.getD t undef, cs, by simp [resRun], by rw [hv]; simp [slotV], hc⟩
    · cases hr
  | cell ad t =>
    simp only [resOf] at hr
    have hs := h.slots ad
    split at hr
    · next b hb =>
      rw [hb] at hs
      simp only [slotR, leafR] at hs
      obtain ⟨_, hv⟩ := hs
      obtain ⟨i, hi, hr⟩ := Option.bind_eq_some_iff.1 hr
      obtain ⟨hag, hr⟩ := bif_some hr
      obtain ⟨c, hc, hr⟩ := Option.bind_eq_some_iff.1 hr
      obtain ⟨rfl, hlen⟩ := exact_eq hr
      obtain ⟨t', cur, b1, b2, b3, b4⟩ := h.boxes b _ hc
      obtain ⟨ti, ht1, ht2, hk⟩ := ti_agg (hE.ti hi)
      have hcl : cur.toList.length = i.ls.length := by rw [leafsR_length b3, hlen]
      have hcells : ∀ j u, cur.toList[j]? = some u → w.cell? ((⟨G.bb b, 0, none⟩ : Addr).add j) = some u := fun j u hu => by
        rw [addr_add, cell_row b1]; simpa using hu
      rcases hk with ⟨hst, fs, hu⟩ | ⟨hst, hl1, d, hu, hn1, hn2⟩
      · rw [hst] at hag
        have hag : agg = true := hag
        subst hag
        refine ⟨.agg cur, cur.toList, ?_, by simp [slotV], b3⟩
        have hlc := run_loadCells_list (P := P) w _ cur.toList hcells
        rw [hcl, ← ht2] at hlc
        simp [resRun, hv, asAddr, loadVar, isAgg, run_underlying hu, sizeOf, typeInfo, ht1, hlc]
      · rw [hst] at hag
        have hag : agg = false := by simpa using hag
        subst hag
        obtain ⟨u, hu1⟩ := List.length_eq_one_iff.1 (hcl.trans hl1)
        refine ⟨u, [u], ?_, by simp [slotV], by rw [← hu1]; exact b3⟩
        have hcell : w.cell? ⟨G.bb b, 0, none⟩ = some u := by
          have := hcells 0 u (by rw [hu1]; rfl)
          simpa [Addr.add] using this
        have hagg : (isAgg t).run P w = .ok false w := by
          simp only [isAgg, Sem.run_bind, run_underlying hu, Result.andThen_ok]
          cases d <;> first | rfl | exact absurd rfl (hn1 _) | exact absurd rfl (hn2 _ _)
        simp [resRun, hv, asAddr, loadVar, hagg, hcell]
    · cases hr

theorem out_ok (hE : EnvOk P E) (h : Rel F G σ0 tmps w) {sh : Bool} : ∀ {rs : List (Bool × List L)} {vs : List ResultVar} {x : caps (snds rs)} {σ σ' : St} (j : Nat), (∀ r g, σ.reg? r = some g → σ0.reg? r = some g) → Rel F G σ tmps w → outRes E sh σ rs vs = some (x, σ') →
    ∃ us L, (vs.mapM (resRun tmps)).run P w = .ok us w ∧ Moved σ σ' L ∧ (sh = true → L = []) ∧ ∀ S' col, Suits F G w sh L S' col → resR S' col w sh E.deep rs x j us
  | [], [], x, σ, σ', j, hs, hR, ho => by
    simp only [outRes, Option.some.injEq] at ho
    obtain ⟨_, rfl⟩ := Prod.mk.inj ho
    exact ⟨[], [], by simp, Moved.refl, fun _ => rfl, fun S' col _ => by simp [resR]⟩
  | [], _ :: _, x, σ, σ', j, hs, hR, ho => by simp [outRes] at ho
  | _ :: _, [], x, σ, σ', j, hs, hR, ho => by simp [outRes] at ho
  | p :: rs, rv :: vs, x, σ, σ', j, hs, hR, ho => by
    simp only [outRes, Option.bind_eq_some_iff, Option.map_eq_some_iff] at ho
    obtain ⟨ls, hls, x1, ha, σ1, hm, ⟨xr, σ2⟩, hrest, hx⟩ := ho
    simp only [Prod.mk.injEq] at hx
    obtain ⟨rfl, rfl⟩ := hx
    obtain ⟨v, cs, hrun, hsl, hleafs⟩ := resOf_ok hE hR hls
    obtain ⟨L1, hM1, hsh1, hout1⟩ : ∃ L, Moved σ σ1 L ∧ (sh = true → L = []) ∧ ∀ S' col, Suits F G w sh L S' col → outR S' col w sh E.deep j p.2 x1 cs := by
      cases sh with
      | true =>
        have : σ = σ1 := by simpa using hm
        subst this
        exact ⟨[], Moved.refl, fun _ => rfl, fun S' col hsu => shared_ok hR hsu j hleafs ha⟩
      | false =>
        obtain ⟨L, hL, _, _, hout⟩ := moveAll_ok hR j hleafs ha (fun _ _ h => h) (by simpa using hm)
        exact ⟨L, hL, by simp, hout⟩
    have hR1 : Rel F G σ1 tmps w := by
      cases sh with
      | true =>
        have : σ = σ1 := by simpa using hm
        subst this
        exact hR
      | false => exact (moveAll_rel hR (by simpa using hm)).1
    obtain ⟨us, L2, hrun2, hM2, hsh2, hout2⟩ := out_ok hE h (j + 16) (fun r g hg => hs r g (hM1.sub r g hg)) hR1 hrest
    refine ⟨v :: us, L1 ++ L2, ?_, hM1.trans hM2, fun hh => by rw [hsh1 hh, hsh2 hh]; rfl, fun S' col hsu => ?_⟩
    · simp [List.mapM_cons, hrun, hrun2]
    · simp only [resR]
      exact ⟨v, us, cs, rfl, by rw [chd_cmk]; exact hout1 S' col hsu.left, .inr hsl, by rw [ctl_cmk]; exact hout2 S' col hsu.right⟩
end
end Go.Ev
end

section
/- The small machine is true to the model, last part: a function's contract out of what it comes to. -/
set_option linter.unusedVariables false
namespace Go.Ev
open Go.RowKit

section
variable {P : Program} {E : Env} {F : Fm} {G : Gh} {σ : St} {a : Act} {w : World} {tmps : Array Value} {H : Nat → List CT} {S T : Nat → Prop}

theorem ro_sub (hST : ∀ b, S b → T b) {p : Col} {e : TypeId} {sz n : Nat} {v : Value} {cs : List Value} (h : roRow w S p e sz n v cs) : roRow w T p e sz n v cs := ro_mono (fun b hb => ⟨hST b hb, rfl⟩) h
theorem enter_caps (hST : ∀ b, S b → T b) : ∀ {cs : List (List L)} {x : caps cs} {vs : List Value}, capsR S w cs x vs → leafsR T G σ w (capSlots cs x) vs
  | [], _, _, h => by simpa [capsR, capSlots, leafsR] using h
  | t :: ts, x, _, h => by
    simp only [capsR] at h
    obtain ⟨v, vs', rfl, ⟨ad, cs, hv, hs, hc, hr⟩, h2⟩ := h
    simp only [capSlots, leafsR, leafR]
    exact ⟨v, vs', rfl, ⟨ad, cs, by rw [addr_zero]; exact hv, hST _ hs, hc, repLs_map (fun _ _ _ _ _ _ _ => ro_sub hST) hr⟩, enter_caps hST h2⟩
theorem leafs_length : ∀ {ls : List L} (x : dens ls), (leafs ls x).length = ls.length
  | [], _ => rfl
  | t :: ts, x => by simp [leafs, leafs_length (tl x)]
theorem enter_ok (hST : ∀ b, S b → T b) : ∀ {ps : List PT} {x : pts ps} {vs : List Value}, argsR S w ps x vs → slotsR T G σ w (enter ps x) vs
  | [], _, _, h => by simpa [argsR, enter, slotsR] using h
  | .v agg m ts :: ps, x, _, h => by
    simp only [argsR] at h
    obtain ⟨v, vs', rfl, ⟨cs, hr, hsl⟩, h2⟩ := h
    have hr' : repLs (roRow w T) ts [] 0 0 (phd x) cs := repLs_map (fun _ _ _ _ _ _ _ => ro_sub hST) hr
    have hl := leafsR_of_rep (G := G) (σ := σ) hr'
    simp only [enter, slotsR]
    refine ⟨v, vs', rfl, ?_, enter_ok hST h2⟩
    cases agg with
    | true =>
      simp only [slotV, if_true] at hsl
      simp only [cellOrAgg, cond_true, slotR]
      exact ⟨cs, hsl, hl, repLs_one roRow_one hr'⟩
    | false =>
      simp only [slotV, Bool.false_eq_true, if_false] at hsl
      subst hsl
      have h1 : (leafs ts (phd (t := .v false m ts) x)).length = 1 := (leafs_length (ls := ts) (phd (t := .v false m ts) x)).trans (by simpa using (repLs_length hr').symm)
      obtain ⟨l, hl1⟩ := List.length_eq_one_iff.1 h1
      simp only [cellOrAgg, cond_false]
      have hl1' : leafs ts (phd (t := .v false m ts) x) = [l] := hl1
      rw [hl1']
      simp only [slotR]
      rw [hl1] at hl
      simp only [leafsR] at hl
      obtain ⟨v', vs'', e, h3, _⟩ := hl
      have : v = v' := by simpa using (List.cons.inj e).1
      rw [this]; exact h3
  | .p io ts :: ps, x, _, h => by
    simp only [argsR] at h
    obtain ⟨v, vs', rfl, ⟨ad, cs, hv, hs, hc, hr⟩, h2⟩ := h
    simp only [enter, slotsR, slotR, leafR]
    exact ⟨v, vs', rfl, ⟨ad, cs, by rw [addr_zero]; exact hv, hST _ hs, hc, repLs_map (fun _ _ _ _ _ _ _ => ro_sub hST) hr⟩, enter_ok hST h2⟩
  | .c f cs :: ps, x, _, h => by
    simp only [argsR] at h
    obtain ⟨v, vs', rfl, ⟨cvs, hv, hc⟩, h2⟩ := h
    simp only [enter, slotsR, slotR, leafR]
    exact ⟨v, vs', rfl, ⟨cvs, hv, enter_caps hST hc⟩, enter_ok hST h2⟩

theorem pad_length {α : Type} (d : α) : ∀ (n : Nat) (l : List α), (pad d n l).length = max n l.length
  | 0, l => by simp [pad]
  | n + 1, [] => by simp [pad, pad_length d n]
  | n + 1, b :: l => by simp [pad, pad_length d n]
theorem pad_nth {α : Type} (d : α) : ∀ (n : Nat) (l : List α) (i : Nat), nth d (pad d n l) i = nth d l i
  | 0, l, i => rfl
  | n + 1, [], 0 => rfl
  | n + 1, [], i + 1 => by
    have := pad_nth d n [] i
    simp only [pad, nth]
    exact this
  | n + 1, b :: l, 0 => rfl
  | n + 1, b :: l, i + 1 => by simp only [pad, nth]; exact pad_nth d n l i
theorem slotsR_get : ∀ {ss : List Slot} {vs : List Value}, slotsR T G σ w ss vs → ∀ i, slotR T G σ w (nth (.cell .junk) ss i) (vs.getD i undef)
  | [], _, _, i => by simp only [nth, slotR, leafR]
  | s :: ss, _, h, 0 => by
    simp only [slotsR] at h
    obtain ⟨v, vs', rfl, h1, _⟩ := h
    exact h1
  | s :: ss, _, h, i + 1 => by
    simp only [slotsR] at h
    obtain ⟨v, vs', rfl, _, h2⟩ := h
    simpa [nth] using slotsR_get h2 i

theorem ct_ok (hE : EnvOk P E) (hC : EnvCts P E w w.heap.size) {fn : Func} {c : Ct} (hf : P.funcs[c.f]? = some fn) (hname : (fn.name == "runtime.NumGoroutine") = false)
    (hdp : E.deep = c.deep) (hev : ∀ x, c.pre x → evalFn E H fn c.ps c.rs c.shared x fun r => r = c.F x) : CtAt P c w := by
  obtain ⟨f, ps, rs, shared, pre, Fn, deep⟩ := c
  have hdp : E.deep = deep := hdp
  subst hdp
  intro vals x S hS hargs hpre
  have h0 := hev x hpre
  unfold evalFn at h0
  obtain ⟨body, hbody⟩ : ∃ b, fn.body = some b := by
    cases hb : fn.body with
    | none => rw [hb] at h0; exact h0.elim
    | some b => exact ⟨b, rfl⟩
  refine ⟨⟨fn, hf, hname, by rw [hbody]; rfl⟩, ?_⟩
  rw [hbody] at h0
  simp only at h0
  refine calls_of_wp hf hbody ?_
  -- the frame
  let F : Fm := { w0 := w, S := S }
  let G : Gh := ⟨fun _ => none, fun _ => 0, fun _ => undef⟩
  have hent := enter_ok (G := G) (σ := { slots := pad (.cell .junk) fn.ntmps (enter ps x), boxes := [], regs := [] }) (T := stab F G.c w) (fun b hb => .inl hb) hargs
  have hlen : vals.size = (enter ps x).length := by
    have := slotsR_length hent
    simpa using this
  have hR : Rel F G { slots := pad (.cell .junk) fn.ntmps (enter ps x), boxes := [], regs := [] } (vals ++ Array.replicate (fn.ntmps - vals.size) undef) w := {
    below := BelowO.refl _ _
    hS := ⟨Nat.le_refl _, fun b hb => hb.elim, fun b hb => ⟨hS b hb, fun h => h⟩⟩
    col := fun b hb => absurd rfl hb
    boxes := fun b c hc => by cases hc
    regs := fun r g hg => by cases hg
    hol := fun r g hg => by cases hg
    slots := fun i => by
      rw [pad_nth]
      have := slotsR_get hent i
      have e : (vals ++ Array.replicate (fn.ntmps - vals.size) undef).getD i undef = vals.toList.getD i undef := by
        rw [Array.getD_eq_getD_getElem?, List.getD_eq_getElem?_getD, Array.getElem?_append, Array.getElem?_toList]
        split
        · rfl
        · next hi =>
          have : vals[i]? = none := Array.getElem?_eq_none (by omega)
          rw [this, Array.getElem?_replicate]
          split <;> rfl
      rw [e]; exact this
    nslots := by
      rw [pad_length, ← hlen]
      simp only [Array.size_append, Array.size_replicate]
      omega }
  refine evalCode_ok (F := F) hE hC body (fun d _ p hp => by cases hp) ⟨G, hR, rfl, fun p hp => by cases hp⟩ h0 fun e n' σ' a' w' hk hok hext => ?_
  obtain ⟨G', hR', hd⟩ := hok
  have hend : (match outRes E shared σ' rs fn.results.toList with
      | none => False
      | some (r, _) => r = Fn x) → a'.defers = [] ∧ ∃ v, (results fn a'.tmps).run P w' = .ok v w' ∧ (fun e w' => ∃ vs v col, e = Ending.returned v ∧ Below w.heap.size w w' ∧ retV vs v ∧ (∀ b, col b ≠ none → w.heap.size ≤ b ∧ b < w'.heap.size) ∧
        resR (fun b => S b ∨ (w.heap.size ≤ b ∧ b < w'.heap.size ∧ col b = none)) col w' shared E.deep rs (Fn x) 0 vs) (Ending.returned v) w' := fun hm => by
    split at hm
    · exact hm.elim
    · next r τ hout =>
      subst hm
      obtain ⟨us, L, hrun, hM, hsh, hres⟩ := out_ok hE hR' 0 (fun _ _ h => h) hR' hout
      let col : Nat → Option Col := shiftC G'.c L
      have hcol : ∀ b, col b ≠ none → G'.c b ≠ none := fun b hb hc => by
        exact hb (shiftC_none hc)
      refine ⟨hd.1, (if h : us.length = 1 then us[0] else .tuple us.toArray), ?_, us, _, col, rfl, hR'.below.below, ?_, fun b hb => ⟨(hR'.col b (hcol b hb)).1.resolve_right fun h => h, (hR'.col b (hcol b hb)).2⟩, hres _ col ⟨fun b hb => ?_, fun hs b hb => ?_, fun p hp b l hb => ?_⟩⟩
      · have e : fn.results.mapM (resRun a'.tmps) = List.toArray <$> fn.results.toList.mapM (resRun a'.tmps) := Array.mapM_eq_mapM_toList
        have hr2 : (fn.results.mapM (resRun a'.tmps)).run P w' = .ok us.toArray w' := by
          rw [e]
          simp [hrun]
        have key : ∀ f : ResultVar → Sem Value, (∀ rv, f rv = resRun a'.tmps rv) → (fn.results.mapM f).run P w' = .ok us.toArray w' := fun f hf => by
          rw [show f = resRun a'.tmps from funext hf]; exact hr2
        unfold results
        rw [Sem.run_bind, key _ (fun rv => by cases rv <;> rfl)]
        simp only [Result.andThen_ok, Sem.run_pure, List.size_toArray]
        by_cases h1 : us.length = 1 <;> simp [h1]
      · unfold retV
        by_cases h1 : us.length = 1
        · left
          rw [dif_pos h1]
          obtain ⟨u, rfl⟩ := List.length_eq_one_iff.1 h1
          rfl
        · right
          rw [dif_neg h1]
          exact ⟨h1, rfl⟩
      · rcases hb with hb | hb
        · exact .inl hb
        · refine .inr ⟨hb.1.resolve_right fun h => h, hb.2.1, ?_⟩
          exact shiftC_none hb.2.2
      · have h1 := hR'.col b hb
        refine .inr ⟨h1.1.resolve_right fun h => h, h1.2, ?_⟩
        cases hq : col b with
        | none => rfl
        | some q =>
          obtain ⟨l, r, j, _, h4, _⟩ := shiftC_some hq
          rw [hsh hs] at h4
          cases h4
      · exact shiftC_of hb (look_pairs hM.once hp)
  cases e with
  | normal => exact hend hk
  | exit id => exact hk.elim
  | ret => exact hend hk
end
end Go.Ev
end

section
/- The small machine is true to the model: the contract of a function that writes the rows that it is handed. -/
set_option linter.unusedVariables false
namespace Go.Ev
open Go.RowKit

section
variable {P : Program} {E : Env} {F : Fm} {G G' : Gh} {σ σ' : St} {a : Act} {w w' : World} {tmps : Array Value} {H : Nat → List CT} {S T : Nat → Prop}

theorem keep_other (ss : List Slot) : Keep F G σ w G { σ with slots := ss } w := ⟨BelowO.refl _ _, fun b hb => ⟨hb, rfl⟩, fun b hb => ⟨hb, rfl⟩, fun r hr => ⟨hr, rfl, fun g' hg' => ⟨g', hg', rfl, rfl⟩⟩⟩
theorem enter1_ok (hST : ∀ b, S b → T b) {p : PT} {x : p.den} {v : Value} (h : argR S w p x v) : slotR T G σ w (enter1 p x) v := by
  have h2 : slotsR T G σ w (enter [p] x) [v] := enter_ok hST (ps := [p]) (x := x) (by simp only [argsR]; exact ⟨v, [], rfl, h, rfl⟩)
  have e : enter [p] x = [enter1 p x] := by rcases p with ⟨agg, m, ts⟩ | _ | _ <;> rfl
  rw [e] at h2
  simp only [slotsR] at h2
  obtain ⟨v', vs', hv, h3, _⟩ := h2
  have : v = v' := by simpa using (List.cons.inj hv).1
  rw [this]; exact h3

theorem enterM_ok {dp : Bool} {col : Nat → Option Col} : ∀ {ps : List PT} {x : pts ps} {j : Nat} {vs : List Value} {G : Gh} {σ σ' : St} {ss : List Slot}, Rel F G σ tmps w → (∀ b, S b → F.S b) → (∀ b l j, col b = some (l ++ [(j, 0)]) → G.c b = some (l ++ [(j, 0)])) →
    argsMR S col w dp ps x j vs → enterM dp ps x j σ = some (ss, σ') → ∃ G', Rel F G' σ' tmps w ∧ Keep F G σ w G' σ' w ∧ G'.c = G.c ∧ slotsR (stab F G'.c w) G' σ' w ss vs
  | [], x, j, vs, G, σ, σ', ss, h, hS, hc, ha, he => by
    simp only [argsMR] at ha
    simp only [enterM, Option.some.injEq] at he
    obtain ⟨rfl, rfl⟩ := Prod.mk.inj he
    exact ⟨G, h, Keep.refl _ _ _ _, rfl, by simpa [slotsR] using ha⟩
  | p :: ps, x, j, vs, G, σ, σ', ss, h, hS, hc, ha, he => by
    simp only [argsMR] at ha
    obtain ⟨v, vs', rfl, h1, h2⟩ := ha
    have plain : argR S w p (phd x) v → (enterM dp ps (ptl x) (j + 16) σ).map (fun r => (enter1 p (phd x) :: r.1, r.2)) = some (ss, σ') →
        ∃ G', Rel F G' σ' tmps w ∧ Keep F G σ w G' σ' w ∧ G'.c = G.c ∧ slotsR (stab F G'.c w) G' σ' w ss (v :: vs') := fun h1 he => by
      obtain ⟨⟨ss', σ2⟩, he2, hx⟩ := Option.map_eq_some_iff.1 he
      obtain ⟨rfl, rfl⟩ := Prod.mk.inj hx
      obtain ⟨G', hR, k, e1, hl⟩ := enterM_ok h hS hc h2 he2
      refine ⟨G', hR, k, e1, ?_⟩
      simp only [slotsR]
      exact ⟨v, vs', rfl, enter1_ok (fun b hb => .inl (hS b hb)) h1, hl⟩
    rcases p with ⟨agg, m, ts⟩ | ⟨io, ts⟩ | ⟨f, cs⟩
    · cases m with
      | io =>
        simp only [argMR] at h1
        obtain ⟨cs, ho, hsl⟩ := h1
        simp only [enterM, Option.bind_eq_some_iff, Option.map_eq_some_iff] at he
        obtain ⟨⟨ls, σ1⟩, hf1, s, hs, ⟨ss', σ2⟩, hf2, hx⟩ := he
        obtain ⟨rfl, rfl⟩ := Prod.mk.inj hx
        obtain ⟨G1, hR1, k1, e1, hl1⟩ := fresh_ok (S := S) (sh := false) (id := 0) h (fun b l j hj => by rw [Nat.zero_add]; exact hc b l j hj) (.inl fun b hb => .inl (hS b hb)) ho hf1
        obtain ⟨G2, hR2, k2, e2, hl2⟩ := enterM_ok hR1 hS (by rw [e1]; exact hc) h2 hf2
        refine ⟨G2, hR2, k1.trans k2, e2.trans e1, ?_⟩
        simp only [slotsR]
        refine ⟨v, vs', rfl, slotR_keep k2 ?_, hl2⟩
        rcases slotOf_ok hs with ⟨ha, rfl⟩ | ⟨ha, l, hl, rfl⟩
        · simp only [slotV, ha, if_true] at hsl
          simp only [slotR]
          exact ⟨cs, hsl, hl1, outR_one ho⟩
        · simp only [slotV, ha, Bool.false_eq_true, if_false] at hsl
          simp only [slotR]
          simp only at hl
          rw [hl, hsl] at hl1
          simp only [leafsR] at hl1
          obtain ⟨v', vs'', e, h3, _⟩ := hl1
          have : v = v' := by simpa using (List.cons.inj e).1
          rw [this]; exact h3
      | ro => exact plain h1 he
      | mv => exact plain h1 he
    · exact plain h1 he
    · exact plain h1 he

def fixFrom : List PT → Nat → List Value → List (Nat × Value)
  | p :: ps, n, v :: vs => bif isIo p then (n, v) :: fixFrom ps (n + 1) vs else fixFrom ps (n + 1) vs
  | _, _, _ => []
theorem fixFrom_mem : ∀ {ps : List PT} {vs : List Value} {n : Nat} {p : Nat × Value}, p ∈ fixFrom ps n vs → ∃ k, p.1 = n + k ∧ vs[k]? = some p.2
  | [], _, n, p, h => by simp [fixFrom] at h
  | _ :: _, [], n, p, h => by simp [fixFrom] at h
  | q :: ps, v :: vs, n, p, h => by
    have tail : p ∈ fixFrom ps (n + 1) vs → ∃ k, p.1 = n + k ∧ (v :: vs)[k]? = some p.2 := fun h => by
      obtain ⟨k, h1, h2⟩ := fixFrom_mem h
      exact ⟨k + 1, by omega, by simpa using h2⟩
    simp only [fixFrom] at h
    cases hi : isIo q with
    | true =>
      rw [hi] at h
      rcases List.mem_cons.1 h with rfl | h
      · exact ⟨0, rfl, rfl⟩
      · exact tail h
    | false => rw [hi] at h; exact tail h
theorem fixFrom_free {D : List Nat} : ∀ {ps : List PT} {vs : List Value} {n : Nat} {p : Nat × Value}, ioFree D ps n = true → p ∈ fixFrom ps n vs → p.1 ∉ D
  | [], _, n, p, _, h => by simp [fixFrom] at h
  | _ :: _, [], n, p, _, h => by simp [fixFrom] at h
  | q :: ps, v :: vs, n, p, hD, h => by
    simp only [ioFree, Bool.and_eq_true, Bool.or_eq_true, Bool.not_eq_true'] at hD
    simp only [fixFrom] at h
    cases hi : isIo q with
    | true =>
      rw [hi] at h
      rcases List.mem_cons.1 h with rfl | h
      · rcases hD.1 with h1 | h1
        · rw [hi] at h1; cases h1
        · intro hm
          rw [memN_iff.2 hm] at h1; cases h1
      · exact fixFrom_free hD.2 h
    | false => rw [hi] at h; exact fixFrom_free hD.2 h
theorem outM_ok {dp : Bool} {col : Nat → Option Col} {σ0 : St} (hR : Rel F G σ0 tmps w') : ∀ {ps : List PT} {x y : pts ps} {vs : List Value} {i j : Nat} {σ σ' : St}, (∀ r g, σ.reg? r = some g → σ0.reg? r = some g) → argsMR S col w dp ps x j vs → (∀ p ∈ fixFrom ps i vs, tmps.getD p.1 undef = p.2) → outM dp σ0 σ ps i x = some (y, σ') →
    ∃ M, Moved σ σ' M ∧ ∀ col', Suits F G w' false M (fun _ => True) col' → backsR col' w' dp ps y j vs
  | [], x, y, vs, i, j, σ, σ', hsub, ha, hf, ho => by
    simp only [outM, Option.some.injEq] at ho
    obtain ⟨_, rfl⟩ := Prod.mk.inj ho
    exact ⟨[], Moved.refl, fun col' _ => by simp only [backsR]⟩
  | p :: ps, x, y, vs, i, j, σ, σ', hsub, ha, hf, ho => by
    simp only [argsMR] at ha
    obtain ⟨v, vs', rfl, h1, h2⟩ := ha
    have hf' : ∀ q ∈ fixFrom ps (i + 1) vs', tmps.getD q.1 undef = q.2 := fun q hq => hf q (by
      simp only [fixFrom]
      cases isIo p with
      | true => exact List.mem_cons_of_mem _ hq
      | false => exact hq)
    have plain : (∀ c z, backR c w' dp j p z v) → ((outM dp σ0 σ ps (i + 1) (ptl x)).map fun r => (pmk (phd x) r.1, r.2)) = some (y, σ') → ∃ M, Moved σ σ' M ∧ ∀ col', Suits F G w' false M (fun _ => True) col' → backsR col' w' dp (p :: ps) y j (v :: vs') := fun hb ho => by
      obtain ⟨⟨r, σr⟩, hr, hx⟩ := Option.map_eq_some_iff.1 ho
      obtain ⟨rfl, rfl⟩ := Prod.mk.inj hx
      obtain ⟨M, hM, hout⟩ := outM_ok hR hsub h2 hf' hr
      refine ⟨M, hM, fun col' hsu => ?_⟩
      simp only [backsR]
      exact ⟨v, vs', rfl, hb _ _, by rw [ptl_pmk]; exact hout col' hsu⟩
    rcases p with ⟨agg, m, ts⟩ | ⟨io, ts⟩ | ⟨f, cs⟩
    · cases m with
      | io =>
        simp only [argMR] at h1
        obtain ⟨cs, o1, hsl⟩ := h1
        simp only [outM, Option.bind_eq_some_iff, Option.map_eq_some_iff] at ho
        obtain ⟨ls, hls, z, hz, σm, hm, ⟨r, σr⟩, hr, hx⟩ := ho
        obtain ⟨rfl, rfl⟩ := Prod.mk.inj hx
        have hv : tmps.getD i undef = v := hf (i, v) (by simp [fixFrom, isIo])
        have hs := hR.slots i
        rw [hv] at hs
        obtain ⟨cs2, hleafs, hsl2⟩ := slotLeafs_ok hs hls
        have := slotV_inj hsl hsl2
        subst this
        obtain ⟨M1, hM1, _, _, hout1⟩ := moveAll_ok hR j hleafs hz hsub hm
        obtain ⟨M2, hM2, hout2⟩ := outM_ok hR (fun r g hg => hsub r g (hM1.sub r g hg)) h2 hf' hr
        refine ⟨M1 ++ M2, hM1.trans hM2, fun col' hsu => ?_⟩
        simp only [backsR]
        have e1 : phd (pmk (t := .v agg .io ts) z r) = z := phd_pmk (t := .v agg .io ts) z r
        have e2 : ptl (pmk (t := .v agg .io ts) z r) = r := ptl_pmk (t := .v agg .io ts) z r
        exact ⟨v, vs', rfl, (congrArg (fun z : dens ts => backR col' w' dp j (.v agg .io ts) z v) e1).mpr ⟨cs, hout1 _ col' hsu.left, hsl⟩,
          (congrArg (fun z : pts ps => backsR col' w' dp ps z (j + 16) vs') e2).mpr (hout2 col' hsu.right)⟩
      | ro => exact plain (fun _ _ => trivial) ho
      | mv => exact plain (fun _ _ => trivial) ho
    · exact plain (fun _ _ => trivial) ho
    · exact plain (fun _ _ => trivial) ho

theorem argsMR_length {dp : Bool} {col : Nat → Option Col} : ∀ {ps : List PT} {x : pts ps} {j : Nat} {vs : List Value}, argsMR S col w dp ps x j vs → vs.length = ps.length
  | [], _, _, _, h => by simp only [argsMR] at h; subst h; rfl
  | p :: ps, _, _, _, h => by
    simp only [argsMR] at h
    obtain ⟨v, vs', rfl, _, h2⟩ := h
    simp [argsMR_length h2]

theorem flat_out {T' : Nat → Prop} {col col' : Nat → Option Col} {sh dp dp' : Bool} : ∀ {ts : List L} {x : dens ts} {j j' : Nat} {cs : List Value}, flat ts = true → outR S col w sh dp j ts x cs → outR T' col' w' sh dp' j' ts x cs
  | [], _, _, _, _, _, h => by simpa [outR] using h
  | .list _ _ :: _, _, _, _, _, hf, _ => by simp [flat, allB, flatL] at hf
  | .int _ :: ts, _, _, _, _, hf, h | .bool :: ts, _, _, _, _, hf, h | .str :: ts, _, _, _, _, hf, h => by
    simp only [outR] at h ⊢
    obtain ⟨v, vs', rfl, h1, h2⟩ := h
    exact ⟨v, vs', rfl, repL_flat rfl h1, flat_out (allB_cons hf).2 h2⟩
theorem flat_res {T' : Nat → Prop} {col col' : Nat → Option Col} {sh dp dp' : Bool} : ∀ {rs : List (Bool × List L)} {x : caps (snds rs)} {j j' : Nat} {vs : List Value}, allB (fun r => flat r.2) rs = true → resR S col w sh dp rs x j vs → resR T' col' w' sh dp' rs x j' vs
  | [], _, _, _, _, _, h => by simpa [resR] using h
  | r :: rs, _, _, _, _, hf, h => by
    simp only [resR] at h ⊢
    obtain ⟨v, vs', cs, rfl, h1, h2, h3⟩ := h
    exact ⟨v, vs', cs, rfl, flat_out (allB_cons hf).1 h1, h2, flat_res (allB_cons hf).2 h3⟩

theorem ctm_ok {n : Nat} (hE : EnvOk P E) (hC : EnvCts P E w n) {fn : Func} {c : CtM} (hf : P.funcs[c.f]? = some fn) (hname : (fn.name == "runtime.NumGoroutine") = false)
    (hdp : E.deep = c.deep) (hev : ∀ x, c.pre x → evalM E H fn c.ps c.rs x fun r y => r = c.F x ∧ y = c.W x) (hq : c.q = false := by rfl) : CtMAt P c n w := by
  refine CtMAt.ofPlain ?_ hq
  obtain ⟨f, ps, rs, pre, Fn, Wn, deep, q⟩ := c
  have hdp : E.deep = deep := hdp
  subst hdp
  intro hn vals x S col hS hO hargs hpre
  have h0 := hev x hpre
  unfold evalM at h0
  obtain ⟨body, hbody⟩ : ∃ b, fn.body = some b := by
    cases hb : fn.body with
    | none => rw [hb] at h0; exact h0.elim
    | some b => exact ⟨b, rfl⟩
  refine ⟨⟨fn, hf, hname, by rw [hbody]; rfl⟩, ?_⟩
  rw [hbody] at h0
  simp only at h0
  refine calls_of_wp hf hbody ?_
  cases hchk : (ioFree (pdsts body) ps 0 && allB (fun r => flat r.2) rs) with
  | false => rw [hchk] at h0; exact h0.elim
  | true =>
  rw [hchk] at h0
  simp only [Bool.not_true, cond_false] at h0
  simp only [Bool.and_eq_true] at hchk
  obtain ⟨hpar, hfl⟩ := hchk
  split at h0
  · exact h0.elim
  next ss σ0 hent =>
  have hlenp : vals.toList.length = ps.length := argsMR_length hargs
  let F : Fm := { w0 := w, S := S, n0 := n, O := fun b => col b ≠ none, fix := fixFrom ps 0 vals.toList }
  let G : Gh := ⟨col, fun _ => 0, fun _ => undef⟩
  have hR0 : Rel F G { slots := [], boxes := [], regs := [] } #[] w := {
    below := BelowO.refl _ _
    hS := ⟨hn, fun b hb => hO b hb, fun b hb => ⟨(hS b hb).1, fun h => h (hS b hb).2⟩⟩
    col := fun b hb => by
      have hb' : col b ≠ none := hb
      exact ⟨.inr hb', (hO b hb').2⟩
    boxes := fun b c hc => by cases hc
    regs := fun r g hg => by cases hg
    hol := fun r g hg => by cases hg
    slots := fun i => by simp only [nth, slotR, leafR]
    nslots := rfl }
  obtain ⟨G1, hR1, _, e1, hslots⟩ := enterM_ok (S := S) (col := col) hR0 (fun b hb => hb) (fun b l j hj => hj) hargs hent
  have hlen : vals.size = ss.length := by
    have := slotsR_length hslots
    simpa using this
  have hR : Rel F G1 { σ0 with slots := pad (.cell .junk) fn.ntmps ss } (vals ++ Array.replicate (fn.ntmps - vals.size) undef) w := {
    below := hR1.below
    hS := hR1.hS
    col := hR1.col
    boxes := fun b c hc => by
      obtain ⟨t, cur, b1, b2, b3, b4⟩ := hR1.boxes b c hc
      exact ⟨t, cur, b1, b2, leafsR_keep (keep_other _) b3, b4⟩
    regs := fun r g hg => hR1.regs r g hg
    hol := fun r g hg => hR1.hol r g hg
    slots := fun i => by
      rw [pad_nth]
      have := slotsR_get hslots i
      have e : (vals ++ Array.replicate (fn.ntmps - vals.size) undef).getD i undef = vals.toList.getD i undef := by
        rw [Array.getD_eq_getD_getElem?, List.getD_eq_getElem?_getD, Array.getElem?_append, Array.getElem?_toList]
        split
        · rfl
        · next hi =>
          have : vals[i]? = none := Array.getElem?_eq_none (by omega)
          rw [this, Array.getElem?_replicate]
          split <;> rfl
      rw [e]; exact slotR_keep (keep_other _) this
    nslots := by
      rw [pad_length, ← hlen]
      simp only [Array.size_append, Array.size_replicate]
      omega }
  have hfree : ∀ d ∈ pdsts body, F.free d := fun d hd p hp e => fixFrom_free hpar hp (by rw [e]; exact hd)
  have hcalm : ∀ p ∈ F.fix, (vals ++ Array.replicate (fn.ntmps - vals.size) undef).getD p.1 undef = p.2 := fun p hp => by
    obtain ⟨k, h1, h2⟩ := fixFrom_mem hp
    rw [h1, Nat.zero_add, Array.getD_eq_getD_getElem?, Array.getElem?_append]
    rw [Array.getElem?_toList] at h2
    have := (Array.getElem?_eq_some_iff.1 h2).1
    rw [if_pos this, h2]
    rfl
  refine evalCode_ok (F := F) hE hC body hfree ⟨G1, hR, rfl, hcalm⟩ h0 fun e n' σ' a' w' hk hok hext => ?_
  obtain ⟨G', hR', hd⟩ := hok
  have hend : (match outRes E false σ' rs fn.results.toList with
      | none => False
      | some (r, _) => match outM E.deep σ' σ' ps 0 x with
        | none => False
        | some (y, _) => r = Fn x ∧ y = Wn x) → a'.defers = [] ∧ ∃ v, (results fn a'.tmps).run P w' = .ok v w' ∧ (fun e w' => ∃ vs v col', e = Ending.returned v ∧ Below n w w' ∧ (∀ b, b < w.heap.size → col b = none → w'.heap[b]? = w.heap[b]?) ∧ retV vs v ∧
        (∀ b, col' b ≠ none → (w.heap.size ≤ b ∨ col b ≠ none) ∧ b < w'.heap.size) ∧
        resR (fun _ => False) (fun _ => none) w' false false rs (Fn x) 0 vs ∧ backsR col' w' E.deep ps (Wn x) 0 vals.toList) (Ending.returned v) w' := fun hm => by
    split at hm
    · exact hm.elim
    · next r τ hout =>
      split at hm
      · exact hm.elim
      · next y τ2 hy =>
      obtain ⟨hm1, hm2⟩ := hm
      subst hm1 hm2
      obtain ⟨us, L, hrun, hM, hsh, hres⟩ := out_ok hE hR' 0 (fun _ _ h => h) hR' hout
      obtain ⟨M, hMM, hback⟩ := outM_ok hR' (fun _ _ h => h) hargs (fun p hp => hd.2 p hp) hy
      refine ⟨hd.1, (if h : us.length = 1 then us[0] else .tuple us.toArray), ?_, us, _, shiftC G'.c M, rfl, hR'.below.below, fun b hb hc => hR'.below.block b hb fun h => h hc, ?_, fun b hb => ?_,
        flat_res hfl (hres (fun b => b < w'.heap.size) (shiftC G'.c L) ⟨fun b hb => stab_lt hR' hb, by simp, fun p hp b l hb => shiftC_of hb (look_pairs hM.once hp)⟩),
        hback _ ⟨fun _ _ => trivial, by simp, fun p hp b l hb => shiftC_of hb (look_pairs hMM.once hp)⟩⟩
      · have e : fn.results.mapM (resRun a'.tmps) = List.toArray <$> fn.results.toList.mapM (resRun a'.tmps) := Array.mapM_eq_mapM_toList
        have hr2 : (fn.results.mapM (resRun a'.tmps)).run P w' = .ok us.toArray w' := by
          rw [e]
          simp [hrun]
        have key : ∀ f : ResultVar → Sem Value, (∀ rv, f rv = resRun a'.tmps rv) → (fn.results.mapM f).run P w' = .ok us.toArray w' := fun f hf => by
          rw [show f = resRun a'.tmps from funext hf]; exact hr2
        unfold results
        rw [Sem.run_bind, key _ (fun rv => by cases rv <;> rfl)]
        simp only [Result.andThen_ok, Sem.run_pure, List.size_toArray]
        by_cases h1 : us.length = 1 <;> simp [h1]
      · unfold retV
        by_cases h1 : us.length = 1
        · left
          rw [dif_pos h1]
          obtain ⟨u, rfl⟩ := List.length_eq_one_iff.1 h1
          rfl
        · right
          rw [dif_neg h1]
          exact ⟨h1, rfl⟩
      · obtain ⟨l, r, j, h1, _⟩ := shiftC_ne hb
        have := hR'.col b (by rw [h1]; simp)
        exact ⟨this.1, this.2⟩
  cases e with
  | normal => exact hend hk
  | exit id => exact hk.elim
  | ret => exact hend hk
end
end Go.Ev
end

section
/- The small machine is true to the model: the contract of a function that takes rows over, and variables that it writes. -/
set_option linter.unusedVariables false
namespace Go.Ev
open Go.RowKit

section
variable {P : Program} {E : Env} {F : Fm} {G G' : Gh} {σ σ' : St} {a : Act} {w w' : World} {tmps : Array Value} {H : Nat → List CT} {S T : Nat → Prop}

end
end Go.Ev
end

section
/- What is read as data stands in memory as typed values: by a check on the type table alone. -/
set_option linter.unusedVariables false
namespace Go.Ev
open Go.RowKit

mutual
def wf : (t : L) → t.den → Prop
  | .int k, x => (Lit.int k x).wf = true
  | .bool, _ => True
  | .str, s => ByteArray.size s ≤ maxLen
  | .list _ ls, xs => List.length (α := L.dens ls) xs ≤ maxLen ∧ ∀ (i : Nat) (x : L.dens ls), gt (α := L.dens ls) xs i = some x → wfs ls x
def wfs : (ls : List L) → L.dens ls → Prop
  | [], _ => True
  | [t], x => wf t x
  | t :: t' :: ts, x => wf t x.1 ∧ wfs (t' :: ts) x.2
end
structure Opn (P : Program) (t : TypeId) (ls : List L) : Prop where
  size : P.cellsOf t = ls.length
  op : ∀ {H : Type} {enc : TypeId × Value → H} {w : World} {base : Nat} {spare : Nat → Bool} {held : Bool} (fuel : Nat) (cs : List Value) (x : DataW H × List MemPlace),
    DataW.trod enc P w base spare held fuel t cs = some x → ∃ y : dens ls, repLs (roRow w (now w)) ls [] 0 0 y cs ∧ wfs ls y
end Go.Ev
end

section
/- Shapes that many functions come to: the sizing, turning and comparing of slices; plain laws on them. -/
set_option linter.unusedVariables false
namespace Go.Ev

def sumN : List Nat → Nat
  | [] => 0
  | a :: l => a + sumN l
mutual
def cost : (t : L) → t.den → Nat
  | .int _, _ => 0
  | .bool, _ => 0
  | .str, s => ByteArray.size s
  | .list _ ls, xs => List.length (α := L.dens ls) xs + sumN (List.map (α := L.dens ls) (costs ls) xs)
def costs : (ls : List L) → L.dens ls → Nat
  | [], _ => 0
  | [t], x => cost t x
  | t :: t' :: ts, x => cost t x.1 + costs (t' :: ts) x.2
end
theorem wrapI (n : Int) (h0 : -9223372036854775808 ≤ n) (h1 : n < 9223372036854775808) : IntKind.i64.wrap n = n := by
  rw [IntKind.wrap_i64]; omega
def eqS {α : Type} (d : α) (P : α → α → Prop) (F : α → α → Bool) (x y : List α) (Q : Bool → Prop) : Prop :=
  ((x.length : Int) ≠ (y.length : Int) → Q false) ∧ (¬ (x.length : Int) ≠ (y.length : Int) → ∀ Lp : Int → Prop,
    (∀ i : Int, ((i < (x.length : Int) → 0 ≤ i ∧ i < (x.length : Int) ∧ 0 ≤ i ∧ i < (y.length : Int) ∧ P (x.getD i.toNat d) (y.getD i.toNat d) ∧
        ((¬ F (x.getD i.toNat d) (y.getD i.toNat d) = true → Q false) ∧ (¬ ¬ F (x.getD i.toNat d) (y.getD i.toNat d) = true → Lp (IntKind.i64.wrap (i + 1))))) ∧
      (¬ i < (x.length : Int) → Q true)) → Lp i) → Lp 0)
theorem eqS_holds {α : Type} (d : α) (P : α → α → Prop) (F : α → α → Bool) (x y : List α) (hlen : x.length ≤ maxLen) (hP : ∀ (i : Nat) (a b : α), gt x i = some a → P a b) (hF : ∀ a b, F a b = true ↔ a = b) {R : Bool} (hR : R = true ↔ x = y) :
    eqS d P F x y (fun r => r = R) := by
  simp only [maxLen] at hlen
  have hf : ∀ {p : Prop}, (p → ¬ x = y) → p → false = R := fun h hp => by
    cases R with
    | false => rfl
    | true => exact absurd (hR.1 rfl) (h hp)
  refine ⟨fun h => hf (p := True) (fun _ e => h (by rw [e])) trivial, fun h Lp hL => ?_⟩
  have hl : x.length = y.length := by
    have : (x.length : Int) = (y.length : Int) := Classical.byContradiction h
    omega
  have key : ∀ (m i : Nat), i + m = x.length → x.take i = y.take i → Lp (i : Int) := by
    intro m
    induction m with
    | zero =>
      intro i hi ht
      refine hL _ ⟨fun hlt => by omega, fun _ => ?_⟩
      rw [show i = x.length by omega, List.take_length, hl, List.take_length] at ht
      exact (hR.2 ht).symm
    | succ m ih =>
      intro i hi ht
      have hlt : i < x.length := by omega
      have hlt' : i < y.length := by omega
      have hgx : x.getD i d = x[i] := by rw [List.getD_eq_getElem?_getD, List.getElem?_eq_getElem hlt]; rfl
      have hgy : y.getD i d = y[i] := by rw [List.getD_eq_getElem?_getD, List.getElem?_eq_getElem hlt']; rfl
      refine hL _ ⟨fun _ => ?_, fun hn => by omega⟩
      simp only [Int.toNat_natCast, hgx, hgy]
      refine ⟨by omega, by omega, by omega, by omega, hP i _ _ (List.getElem?_eq_getElem hlt), fun hne => ?_, fun heq => ?_⟩
      · refine hf (p := ¬ F x[i] y[i] = true) (fun h e => h ((hF _ _).2 ?_)) hne
        subst e
        rfl
      · rw [wrapI _ (by omega) (by omega)]
        have he : x[i] = y[i] := (hF _ _).1 (Classical.byContradiction heq)
        refine ih (i + 1) (by omega) ?_
        rw [List.take_add_one, List.take_add_one, ht, List.getElem?_eq_getElem hlt, List.getElem?_eq_getElem hlt', he]
  exact key x.length 0 (by omega) (by simp)

inductive SzStep (α : Type) where
  | str (g : α → ByteArray)
  | call (W : α → Prop) (c : α → Nat)
inductive EqStep (α : Type) where
  | ne (p : α → α → Prop)
  | call (W : α → α → Prop) (F : α → α → Bool)
def eqSt {α : Type} (x y : α) : List (EqStep α) → (Bool → Prop) → Prop
  | [], Q => Q true
  | .ne p :: r, Q => (p x y → Q false) ∧ (¬ p x y → eqSt x y r Q)
  | .call W F :: r, Q => W x y ∧ ((¬ F x y = true → Q false) ∧ (¬ ¬ F x y = true → eqSt x y r Q))
def eqAll {α : Type} (x y : α) : List (EqStep α) → Prop
  | [] => True
  | .ne p :: r => ¬ p x y ∧ eqAll x y r
  | .call _ F :: r => F x y = true ∧ eqAll x y r
def eqFine {α : Type} (x y : α) : List (EqStep α) → Prop
  | [] => True
  | .ne _ :: r => eqFine x y r
  | .call W _ :: r => W x y ∧ eqFine x y r
theorem eqSt_holds {α : Type} (x y : α) : ∀ (l : List (EqStep α)) {R : Bool}, eqFine x y l → (R = true ↔ eqAll x y l) → eqSt x y l (fun r => r = R)
  | [], R, _, hR => by
    simp only [eqSt]
    exact (hR.2 trivial).symm
  | .ne p :: r, R, hf, hR => by
    simp only [eqSt]
    refine ⟨fun h => ?_, fun h => eqSt_holds x y r hf (hR.trans ⟨fun h => h.2, fun h' => ⟨h, h'⟩⟩)⟩
    cases R with
    | false => rfl
    | true => exact absurd h (hR.1 rfl).1
  | .call W F :: r, R, hf, hR => by
    simp only [eqSt]
    refine ⟨hf.1, fun h => ?_, fun h => eqSt_holds x y r hf.2 (hR.trans ⟨fun h => h.2, fun h' => ⟨Classical.byContradiction h, h'⟩⟩)⟩
    cases R with
    | false => rfl
    | true => exact absurd (hR.1 rfl).1 h
end Go.Ev
end

section
/- The plain library, first part: canonical types of the program's data, texts as lists of bytes, loops by measure. -/
set_option linter.unusedVariables false
namespace Go.Ev
abbrev S := ByteArray
abbrev Fld : Type := S × S
abbrev Rsp : Type := Int × List Fld × S
abbrev Sto : Type := S × List Fld × Int × List Fld × S × Int × Int
abbrev Slt : Type := S × List Fld × Int × List Fld × S × Int × Int × Bool
abbrev Shd : Type := Int × Int × List Slt × Int
abbrev Gen : Type := S × Int
abbrev Cch : Type := List Shd × List Gen
abbrev Flt : Type := S × Bool × Int × Bool × Bool × S × S × List Fld × S × Int × List Fld × S × Int × Int
abbrev Rsc : Type := S × S × Int × Int × Bool × Bool × List Fld
abbrev Tld : Type := Int × Int × List Fld × S
abbrev Evt : Type := Int × Int × Int × S × Int × Int
abbrev Cnn : Type := Int × S × Int × S × S × List Fld × S × S × S × List Fld × S × S × List Fld × Int × List Fld × S × Int × Int × Bool × Int × Int × Int × Int × Bool × Int × List Fld × S × List Tld
class Dft (α : Type) where
  dft : α
instance : Dft Int := ⟨0⟩
instance : Dft Bool := ⟨false⟩
instance : Dft ByteArray := ⟨ByteArray.empty⟩
instance {α : Type} : Dft (List α) := ⟨[]⟩
instance {α β : Type} [Dft α] [Dft β] : Dft (α × β) := ⟨(Dft.dft, Dft.dft)⟩
def rx {α : Type} [Dft α] (xs : List α) (i : Int) : α := xs.getD i.toNat Dft.dft
theorem rx_nat {α : Type} [Dft α] (xs : List α) (i : Nat) (h : i < xs.length) : rx xs (i : Int) = xs[i] := by
  unfold rx
  rw [Int.toNat_natCast, List.getD_eq_getElem?_getD, List.getElem?_eq_getElem h]; rfl

class Cz (α : Type) where
  czOf : α → Nat
def cz {α : Type} [Cz α] (x : α) : Nat := Cz.czOf x
instance : Cz Int := ⟨fun _ => 0⟩
instance : Cz Bool := ⟨fun _ => 0⟩
instance : Cz ByteArray := ⟨fun s => s.size⟩
instance {α : Type} [Cz α] : Cz (List α) := ⟨fun xs => xs.length + sumN (xs.map cz)⟩
instance {α β : Type} [Cz α] [Cz β] : Cz (α × β) := ⟨fun x => cz x.1 + cz x.2⟩
def in64 (n : Int) : Prop := -9223372036854775808 ≤ n ∧ n ≤ 9223372036854775807
class Wd (α : Type) where
  wdOf : α → Prop
def wd {α : Type} [Wd α] (x : α) : Prop := Wd.wdOf x
instance : Wd Int := ⟨fun n => (Lit.int .i64 n).wf = true⟩
instance : Wd Bool := ⟨fun _ => True⟩
instance : Wd ByteArray := ⟨fun s => s.size ≤ maxLen⟩
instance {α : Type} [Wd α] : Wd (List α) := ⟨fun xs => xs.length ≤ maxLen ∧ ∀ (i : Nat) (x : α), gt xs i = some x → wd x⟩
instance {α β : Type} [Wd α] [Wd β] : Wd (α × β) := ⟨fun x => wd x.1 ∧ wd x.2⟩
instance : DecidableEq (List Fld × S) := @instDecidableEqProd _ _ inferInstance inferInstance
instance : DecidableEq (Int × List Fld × S) := @instDecidableEqProd _ _ inferInstance inferInstance
instance : Dft (Int × List Fld × S) := inferInstance
instance : Cz (Int × List Fld × S) := inferInstance
instance : Wd (Int × List Fld × S) := inferInstance
instance : DecidableEq (S × List Fld × S) := @instDecidableEqProd _ _ inferInstance inferInstance
instance : DecidableEq (S × S × List Fld × S) := @instDecidableEqProd _ _ inferInstance inferInstance
instance : Dft (S × S × List Fld × S) := inferInstance
instance : Cz (S × S × List Fld × S) := inferInstance
instance : Wd (S × S × List Fld × S) := inferInstance
instance : DecidableEq (Int × Int × List Fld × S) := @instDecidableEqProd _ _ inferInstance inferInstance
instance : Dft (Int × Int × List Fld × S) := inferInstance
instance : Cz (Int × Int × List Fld × S) := inferInstance
instance : Wd (Int × Int × List Fld × S) := inferInstance
instance : DecidableEq (Int × Int) := @instDecidableEqProd _ _ inferInstance inferInstance
instance : DecidableEq (S × Int × Int) := @instDecidableEqProd _ _ inferInstance inferInstance
instance : DecidableEq (List Fld × S × Int × Int) := @instDecidableEqProd _ _ inferInstance inferInstance
instance : Dft (List Fld × S × Int × Int) := inferInstance
instance : Cz (List Fld × S × Int × Int) := inferInstance
instance : Wd (List Fld × S × Int × Int) := inferInstance
instance : DecidableEq (Int × List Fld × S × Int × Int) := @instDecidableEqProd _ _ inferInstance inferInstance
instance : DecidableEq (List Fld × Int × List Fld × S × Int × Int) := @instDecidableEqProd _ _ inferInstance inferInstance
instance : DecidableEq (S × List Fld × Int × List Fld × S × Int × Int) := @instDecidableEqProd _ _ inferInstance inferInstance
instance : Dft (S × List Fld × Int × List Fld × S × Int × Int) := inferInstance
instance : Cz (S × List Fld × Int × List Fld × S × Int × Int) := inferInstance
instance : Wd (S × List Fld × Int × List Fld × S × Int × Int) := inferInstance
instance : DecidableEq (Int × Bool) := @instDecidableEqProd _ _ inferInstance inferInstance
instance : DecidableEq (Int × Int × Bool) := @instDecidableEqProd _ _ inferInstance inferInstance
instance : DecidableEq (S × Int × Int × Bool) := @instDecidableEqProd _ _ inferInstance inferInstance
instance : Dft (S × Int × Int × Bool) := inferInstance
instance : Cz (S × Int × Int × Bool) := inferInstance
instance : Wd (S × Int × Int × Bool) := inferInstance
instance : DecidableEq (List Fld × S × Int × Int × Bool) := @instDecidableEqProd _ _ inferInstance inferInstance
instance : DecidableEq (Int × List Fld × S × Int × Int × Bool) := @instDecidableEqProd _ _ inferInstance inferInstance
instance : DecidableEq (List Fld × Int × List Fld × S × Int × Int × Bool) := @instDecidableEqProd _ _ inferInstance inferInstance
instance : DecidableEq (S × List Fld × Int × List Fld × S × Int × Int × Bool) := @instDecidableEqProd _ _ inferInstance inferInstance
instance : Dft (S × List Fld × Int × List Fld × S × Int × Int × Bool) := inferInstance
instance : Cz (S × List Fld × Int × List Fld × S × Int × Int × Bool) := inferInstance
instance : Wd (S × List Fld × Int × List Fld × S × Int × Int × Bool) := inferInstance
instance : DecidableEq (List Slt × Int) := @instDecidableEqProd _ _ inferInstance inferInstance
instance : DecidableEq (Int × List Slt × Int) := @instDecidableEqProd _ _ inferInstance inferInstance
instance : DecidableEq (Int × Int × List Slt × Int) := @instDecidableEqProd _ _ inferInstance inferInstance
instance : Dft (Int × Int × List Slt × Int) := inferInstance
instance : Cz (Int × Int × List Slt × Int) := inferInstance
instance : Wd (Int × Int × List Slt × Int) := inferInstance
instance : DecidableEq (S × Int) := @instDecidableEqProd _ _ inferInstance inferInstance
instance : Dft (S × Int) := inferInstance
instance : Cz (S × Int) := inferInstance
instance : Wd (S × Int) := inferInstance
instance : DecidableEq (S × Int × List Fld × S × Int × Int) := @instDecidableEqProd _ _ inferInstance inferInstance
instance : DecidableEq (List Fld × S × Int × List Fld × S × Int × Int) := @instDecidableEqProd _ _ inferInstance inferInstance
instance : DecidableEq (S × List Fld × S × Int × List Fld × S × Int × Int) := @instDecidableEqProd _ _ inferInstance inferInstance
instance : Dft (S × List Fld × S × Int × List Fld × S × Int × Int) := inferInstance
instance : Cz (S × List Fld × S × Int × List Fld × S × Int × Int) := inferInstance
instance : Wd (S × List Fld × S × Int × List Fld × S × Int × Int) := inferInstance
instance : DecidableEq (S × S × List Fld × S × Int × List Fld × S × Int × Int) := @instDecidableEqProd _ _ inferInstance inferInstance
instance : DecidableEq (Bool × S × S × List Fld × S × Int × List Fld × S × Int × Int) := @instDecidableEqProd _ _ inferInstance inferInstance
instance : DecidableEq (Bool × Bool × S × S × List Fld × S × Int × List Fld × S × Int × Int) := @instDecidableEqProd _ _ inferInstance inferInstance
instance : DecidableEq (Int × Bool × Bool × S × S × List Fld × S × Int × List Fld × S × Int × Int) := @instDecidableEqProd _ _ inferInstance inferInstance
instance : Dft (Int × Bool × Bool × S × S × List Fld × S × Int × List Fld × S × Int × Int) := inferInstance
instance : Cz (Int × Bool × Bool × S × S × List Fld × S × Int × List Fld × S × Int × Int) := inferInstance
instance : Wd (Int × Bool × Bool × S × S × List Fld × S × Int × List Fld × S × Int × Int) := inferInstance
instance : DecidableEq (Bool × Int × Bool × Bool × S × S × List Fld × S × Int × List Fld × S × Int × Int) := @instDecidableEqProd _ _ inferInstance inferInstance
instance : DecidableEq (S × Bool × Int × Bool × Bool × S × S × List Fld × S × Int × List Fld × S × Int × Int) := @instDecidableEqProd _ _ inferInstance inferInstance
instance : Dft (S × Bool × Int × Bool × Bool × S × S × List Fld × S × Int × List Fld × S × Int × Int) := inferInstance
instance : Cz (S × Bool × Int × Bool × Bool × S × S × List Fld × S × Int × List Fld × S × Int × Int) := inferInstance
instance : Wd (S × Bool × Int × Bool × Bool × S × S × List Fld × S × Int × List Fld × S × Int × Int) := inferInstance
instance : DecidableEq (Bool × List Fld) := @instDecidableEqProd _ _ inferInstance inferInstance
instance : DecidableEq (Bool × Bool × List Fld) := @instDecidableEqProd _ _ inferInstance inferInstance
instance : DecidableEq (Int × Bool × Bool × List Fld) := @instDecidableEqProd _ _ inferInstance inferInstance
instance : Dft (Int × Bool × Bool × List Fld) := inferInstance
instance : Cz (Int × Bool × Bool × List Fld) := inferInstance
instance : Wd (Int × Bool × Bool × List Fld) := inferInstance
instance : DecidableEq (Int × Int × Bool × Bool × List Fld) := @instDecidableEqProd _ _ inferInstance inferInstance
instance : DecidableEq (S × Int × Int × Bool × Bool × List Fld) := @instDecidableEqProd _ _ inferInstance inferInstance
instance : DecidableEq (S × S × Int × Int × Bool × Bool × List Fld) := @instDecidableEqProd _ _ inferInstance inferInstance
instance : Dft (S × S × Int × Int × Bool × Bool × List Fld) := inferInstance
instance : Cz (S × S × Int × Int × Bool × Bool × List Fld) := inferInstance
instance : Wd (S × S × Int × Int × Bool × Bool × List Fld) := inferInstance
instance : DecidableEq (Int × S × Int × Int) := @instDecidableEqProd _ _ inferInstance inferInstance
instance : Dft (Int × S × Int × Int) := inferInstance
instance : Cz (Int × S × Int × Int) := inferInstance
instance : Wd (Int × S × Int × Int) := inferInstance
instance : DecidableEq (Int × Int × S × Int × Int) := @instDecidableEqProd _ _ inferInstance inferInstance
instance : DecidableEq (Int × Int × Int × S × Int × Int) := @instDecidableEqProd _ _ inferInstance inferInstance
instance : Dft (Int × Int × Int × S × Int × Int) := inferInstance
instance : Cz (Int × Int × Int × S × Int × Int) := inferInstance
instance : Wd (Int × Int × Int × S × Int × Int) := inferInstance
instance : DecidableEq (S × List Tld) := @instDecidableEqProd _ _ inferInstance inferInstance
instance : DecidableEq (List Fld × S × List Tld) := @instDecidableEqProd _ _ inferInstance inferInstance
instance : DecidableEq (Int × List Fld × S × List Tld) := @instDecidableEqProd _ _ inferInstance inferInstance
instance : Dft (Int × List Fld × S × List Tld) := inferInstance
instance : Cz (Int × List Fld × S × List Tld) := inferInstance
instance : Wd (Int × List Fld × S × List Tld) := inferInstance
instance : DecidableEq (Bool × Int × List Fld × S × List Tld) := @instDecidableEqProd _ _ inferInstance inferInstance
instance : DecidableEq (Int × Bool × Int × List Fld × S × List Tld) := @instDecidableEqProd _ _ inferInstance inferInstance
instance : DecidableEq (Int × Int × Bool × Int × List Fld × S × List Tld) := @instDecidableEqProd _ _ inferInstance inferInstance
instance : DecidableEq (Int × Int × Int × Bool × Int × List Fld × S × List Tld) := @instDecidableEqProd _ _ inferInstance inferInstance
instance : Dft (Int × Int × Int × Bool × Int × List Fld × S × List Tld) := inferInstance
instance : Cz (Int × Int × Int × Bool × Int × List Fld × S × List Tld) := inferInstance
instance : Wd (Int × Int × Int × Bool × Int × List Fld × S × List Tld) := inferInstance
instance : DecidableEq (Int × Int × Int × Int × Bool × Int × List Fld × S × List Tld) := @instDecidableEqProd _ _ inferInstance inferInstance
instance : DecidableEq (Bool × Int × Int × Int × Int × Bool × Int × List Fld × S × List Tld) := @instDecidableEqProd _ _ inferInstance inferInstance
instance : DecidableEq (Int × Bool × Int × Int × Int × Int × Bool × Int × List Fld × S × List Tld) := @instDecidableEqProd _ _ inferInstance inferInstance
instance : DecidableEq (Int × Int × Bool × Int × Int × Int × Int × Bool × Int × List Fld × S × List Tld) := @instDecidableEqProd _ _ inferInstance inferInstance
instance : Dft (Int × Int × Bool × Int × Int × Int × Int × Bool × Int × List Fld × S × List Tld) := inferInstance
instance : Cz (Int × Int × Bool × Int × Int × Int × Int × Bool × Int × List Fld × S × List Tld) := inferInstance
instance : Wd (Int × Int × Bool × Int × Int × Int × Int × Bool × Int × List Fld × S × List Tld) := inferInstance
instance : DecidableEq (S × Int × Int × Bool × Int × Int × Int × Int × Bool × Int × List Fld × S × List Tld) := @instDecidableEqProd _ _ inferInstance inferInstance
instance : DecidableEq (List Fld × S × Int × Int × Bool × Int × Int × Int × Int × Bool × Int × List Fld × S × List Tld) := @instDecidableEqProd _ _ inferInstance inferInstance
instance : DecidableEq (Int × List Fld × S × Int × Int × Bool × Int × Int × Int × Int × Bool × Int × List Fld × S × List Tld) := @instDecidableEqProd _ _ inferInstance inferInstance
instance : DecidableEq (List Fld × Int × List Fld × S × Int × Int × Bool × Int × Int × Int × Int × Bool × Int × List Fld × S × List Tld) := @instDecidableEqProd _ _ inferInstance inferInstance
instance : Dft (List Fld × Int × List Fld × S × Int × Int × Bool × Int × Int × Int × Int × Bool × Int × List Fld × S × List Tld) := inferInstance
instance : Cz (List Fld × Int × List Fld × S × Int × Int × Bool × Int × Int × Int × Int × Bool × Int × List Fld × S × List Tld) := inferInstance
instance : Wd (List Fld × Int × List Fld × S × Int × Int × Bool × Int × Int × Int × Int × Bool × Int × List Fld × S × List Tld) := inferInstance
instance : DecidableEq (S × List Fld × Int × List Fld × S × Int × Int × Bool × Int × Int × Int × Int × Bool × Int × List Fld × S × List Tld) := @instDecidableEqProd _ _ inferInstance inferInstance
instance : DecidableEq (S × S × List Fld × Int × List Fld × S × Int × Int × Bool × Int × Int × Int × Int × Bool × Int × List Fld × S × List Tld) := @instDecidableEqProd _ _ inferInstance inferInstance
instance : DecidableEq (List Fld × S × S × List Fld × Int × List Fld × S × Int × Int × Bool × Int × Int × Int × Int × Bool × Int × List Fld × S × List Tld) := @instDecidableEqProd _ _ inferInstance inferInstance
instance : DecidableEq (S × List Fld × S × S × List Fld × Int × List Fld × S × Int × Int × Bool × Int × Int × Int × Int × Bool × Int × List Fld × S × List Tld) := @instDecidableEqProd _ _ inferInstance inferInstance
instance : Dft (S × List Fld × S × S × List Fld × Int × List Fld × S × Int × Int × Bool × Int × Int × Int × Int × Bool × Int × List Fld × S × List Tld) := inferInstance
instance : Cz (S × List Fld × S × S × List Fld × Int × List Fld × S × Int × Int × Bool × Int × Int × Int × Int × Bool × Int × List Fld × S × List Tld) := inferInstance
instance : Wd (S × List Fld × S × S × List Fld × Int × List Fld × S × Int × Int × Bool × Int × Int × Int × Int × Bool × Int × List Fld × S × List Tld) := inferInstance
instance : DecidableEq (S × S × List Fld × S × S × List Fld × Int × List Fld × S × Int × Int × Bool × Int × Int × Int × Int × Bool × Int × List Fld × S × List Tld) := @instDecidableEqProd _ _ inferInstance inferInstance
instance : DecidableEq (S × S × S × List Fld × S × S × List Fld × Int × List Fld × S × Int × Int × Bool × Int × Int × Int × Int × Bool × Int × List Fld × S × List Tld) := @instDecidableEqProd _ _ inferInstance inferInstance
instance : DecidableEq (List Fld × S × S × S × List Fld × S × S × List Fld × Int × List Fld × S × Int × Int × Bool × Int × Int × Int × Int × Bool × Int × List Fld × S × List Tld) := @instDecidableEqProd _ _ inferInstance inferInstance
instance : DecidableEq (S × List Fld × S × S × S × List Fld × S × S × List Fld × Int × List Fld × S × Int × Int × Bool × Int × Int × Int × Int × Bool × Int × List Fld × S × List Tld) := @instDecidableEqProd _ _ inferInstance inferInstance
instance : Dft (S × List Fld × S × S × S × List Fld × S × S × List Fld × Int × List Fld × S × Int × Int × Bool × Int × Int × Int × Int × Bool × Int × List Fld × S × List Tld) := inferInstance
instance : Cz (S × List Fld × S × S × S × List Fld × S × S × List Fld × Int × List Fld × S × Int × Int × Bool × Int × Int × Int × Int × Bool × Int × List Fld × S × List Tld) := inferInstance
instance : Wd (S × List Fld × S × S × S × List Fld × S × S × List Fld × Int × List Fld × S × Int × Int × Bool × Int × Int × Int × Int × Bool × Int × List Fld × S × List Tld) := inferInstance
instance : DecidableEq (S × S × List Fld × S × S × S × List Fld × S × S × List Fld × Int × List Fld × S × Int × Int × Bool × Int × Int × Int × Int × Bool × Int × List Fld × S × List Tld) := @instDecidableEqProd _ _ inferInstance inferInstance
instance : DecidableEq (Int × S × S × List Fld × S × S × S × List Fld × S × S × List Fld × Int × List Fld × S × Int × Int × Bool × Int × Int × Int × Int × Bool × Int × List Fld × S × List Tld) := @instDecidableEqProd _ _ inferInstance inferInstance
instance : DecidableEq (S × Int × S × S × List Fld × S × S × S × List Fld × S × S × List Fld × Int × List Fld × S × Int × Int × Bool × Int × Int × Int × Int × Bool × Int × List Fld × S × List Tld) := @instDecidableEqProd _ _ inferInstance inferInstance
instance : DecidableEq (Int × S × Int × S × S × List Fld × S × S × S × List Fld × S × S × List Fld × Int × List Fld × S × Int × Int × Bool × Int × Int × Int × Int × Bool × Int × List Fld × S × List Tld) := @instDecidableEqProd _ _ inferInstance inferInstance
instance : Dft (Int × S × Int × S × S × List Fld × S × S × S × List Fld × S × S × List Fld × Int × List Fld × S × Int × Int × Bool × Int × Int × Int × Int × Bool × Int × List Fld × S × List Tld) := inferInstance
instance : Cz (Int × S × Int × S × S × List Fld × S × S × S × List Fld × S × S × List Fld × Int × List Fld × S × Int × Int × Bool × Int × Int × Int × Int × Bool × Int × List Fld × S × List Tld) := inferInstance
instance : Wd (Int × S × Int × S × S × List Fld × S × S × S × List Fld × S × S × List Fld × Int × List Fld × S × Int × Int × Bool × Int × Int × Int × Int × Bool × Int × List Fld × S × List Tld) := inferInstance
instance : DecidableEq (List Shd × List Gen) := @instDecidableEqProd _ _ inferInstance inferInstance
instance : Dft (List Shd × List Gen) := inferInstance
instance : Cz (List Shd × List Gen) := inferInstance
instance : Wd (List Shd × List Gen) := inferInstance
instance : DecidableEq (List Rsc × List Evt) := @instDecidableEqProd _ _ inferInstance inferInstance
instance : DecidableEq (List Flt × List Rsc × List Evt) := @instDecidableEqProd _ _ inferInstance inferInstance
instance : DecidableEq (List Gen × List Flt × List Rsc × List Evt) := @instDecidableEqProd _ _ inferInstance inferInstance
instance : Dft (List Gen × List Flt × List Rsc × List Evt) := inferInstance
instance : Cz (List Gen × List Flt × List Rsc × List Evt) := inferInstance
instance : Wd (List Gen × List Flt × List Rsc × List Evt) := inferInstance
instance : DecidableEq (List Shd × List Gen × List Flt × List Rsc × List Evt) := @instDecidableEqProd _ _ inferInstance inferInstance
instance : DecidableEq (List Cnn × List Shd × List Gen × List Flt × List Rsc × List Evt) := @instDecidableEqProd _ _ inferInstance inferInstance
instance : DecidableEq (Int × List Cnn × List Shd × List Gen × List Flt × List Rsc × List Evt) := @instDecidableEqProd _ _ inferInstance inferInstance
instance : DecidableEq (Int × Int × List Cnn × List Shd × List Gen × List Flt × List Rsc × List Evt) := @instDecidableEqProd _ _ inferInstance inferInstance
instance : Dft (Int × Int × List Cnn × List Shd × List Gen × List Flt × List Rsc × List Evt) := inferInstance
instance : Cz (Int × Int × List Cnn × List Shd × List Gen × List Flt × List Rsc × List Evt) := inferInstance
instance : Wd (Int × Int × List Cnn × List Shd × List Gen × List Flt × List Rsc × List Evt) := inferInstance
theorem wd_int {n : Int} : wd n ↔ in64 n := by
  show (Lit.int .i64 n).wf = true ↔ _
  have h0 : IntKind.i64.min = -9223372036854775808 := rfl
  have h1 : IntKind.i64.max = 9223372036854775807 := rfl
  unfold in64
  simp only [Lit.wf, Bool.and_eq_true, decide_eq_true_eq, h0, h1]
theorem wd_pair {α β : Type} [Wd α] [Wd β] {x : α × β} : wd x ↔ wd x.1 ∧ wd x.2 := Iff.rfl
def eqF {α : Type} [DecidableEq α] (x y : α) : Bool := decide (x = y)
def pEq {α : Type} [Wd α] (x _y : α) : Prop := wd x
theorem eqF_iff {α : Type} [DecidableEq α] {x y : α} : eqF x y = true ↔ x = y := decide_eq_true_iff
def lit (l : List Nat) : ByteArray := ⟨(l.map UInt8.ofNat).toArray⟩
abbrev bs (s : ByteArray) : List UInt8 := s.data.toList
def ob (l : List UInt8) : ByteArray := ⟨l.toArray⟩
theorem bs_ob (l : List UInt8) : bs (ob l) = l := rfl
theorem ob_bs (s : ByteArray) : ob (bs s) = s := rfl
theorem bs_inj {s t : ByteArray} (h : bs s = bs t) : s = t := by rw [← ob_bs s, h, ob_bs]
theorem bs_len (s : ByteArray) : (bs s).length = s.size := by
  show s.data.toList.length = s.data.size
  exact Array.length_toList
theorem ob_size (l : List UInt8) : (ob l).size = l.length := by rw [← bs_len, bs_ob]
theorem bs_append (s t : ByteArray) : bs (s ++ t) = bs s ++ bs t := by
  show (s ++ t).data.toList = _
  rw [ByteArray.data_append, Array.toList_append]
theorem bs_lit (l : List Nat) : bs (lit l) = l.map UInt8.ofNat := rfl
theorem size_append (s t : ByteArray) : (s ++ t).size = s.size + t.size := by rw [← bs_len, bs_append, List.length_append, bs_len, bs_len]
theorem wrap64 {n : Int} (h0 : -9223372036854775808 ≤ n) (h1 : n < 9223372036854775808) : IntKind.i64.wrap n = n := wrapI n h0 h1
theorem loopI {α : Type} {Lp : α → Prop} {B : α → Prop} (hL : ∀ y, B y → Lp y) (I : α → Prop) (m : α → Nat) (step : ∀ y, I y → (∀ y', I y' → m y' < m y → Lp y') → B y) : ∀ y, I y → Lp y := by
  have key : ∀ (n : Nat) (y : α), m y = n → I y → Lp y := by
    intro n
    induction n using Nat.strongRecOn with
    | _ n ih =>
      intro y hm hI
      exact hL y (step y hI fun y' hI' hlt => ih (m y') (by omega) y' rfl hI')
  exact fun y hI => key _ y rfl hI
instance {s t : ByteArray} : Decidable (strLt s t) := inferInstanceAs (Decidable (_ = _))
end Go.Ev
namespace Go.Ev
theorem ct_by {P : Program} {E : Env} {w : World} {H : Nat → List CT} {fn : Func} {c : Ct} (hE : EnvOk P E) (hC : EnvCts P E w w.heap.size) (hf : P.funcs[c.f]? = some fn) (hname : (fn.name == "runtime.NumGoroutine") = false)
    {A : Prop} (hA : A) (hev : A = ∀ x, c.pre x → evalFn E H fn c.ps c.rs c.shared x fun r => r = c.F x) (hdp : E.deep = c.deep := by rfl) : CtAt P c w := ct_ok hE hC hf hname hdp (hev ▸ hA)
theorem ctm_by {P : Program} {E : Env} {n : Nat} {w : World} {H : Nat → List CT} {fn : Func} {c : CtM} (hE : EnvOk P E) (hC : EnvCts P E w n) (hf : P.funcs[c.f]? = some fn) (hname : (fn.name == "runtime.NumGoroutine") = false)
    {A : Prop} (hA : A) (hev : A = ∀ x, c.pre x → evalM E H fn c.ps c.rs x fun r y => r = c.F x ∧ y = c.W x) (hdp : E.deep = c.deep := by rfl) (hq : c.q = false := by rfl) : CtMAt P c n w := ctm_ok hE hC hf hname hdp (hev ▸ hA) hq
theorem wrapS {i : Nat} (h : i ≤ 4611686018427387904) : IntKind.i64.wrap ((i : Int) + 1) = ((i + 1 : Nat) : Int) := by
  rw [wrap64 (by omega) (by omega)]; omega
theorem rx_get {α : Type} [Dft α] (xs : List α) {i : Nat} (h : i < xs.length) : rx xs (i : Int) = xs[i] := rx_nat xs i h
end Go.Ev
end

section
set_option linter.unusedVariables false
namespace Go.Ev
open Go.RowKit Go.Proofs
theorem run_copy_rowN {P : Program} (w : World) (dT sT ty elem : TypeId) (i : TypeInfo) (g o dLen dCap : Nat) (a : Addr) (sLen sCap : Nat) (cur : Array Value) (t : TypeId) (cs : List Value)
    (hu : P.underlying dT = some (.slice elem)) (hi : P.info? elem = some i)
    (hg : w.heap[g]? = some (.cells cur t (0, 0))) (hn : cs.length = Nat.min sLen dLen * i.size)
    (hsrc : ∀ j v, cs[j]? = some v → w.cell? (a.add j) = some v) (hfit : o + cs.length ≤ cur.size) (h1 : ∀ v ∈ cs, v.oneCell' = true) :
    (Builtin.copy_ #[dT, sT] ty #[.slice (some ⟨g, o, none⟩) dLen dCap, .slice (some a) sLen sCap]).run P w =
      .ok (goInt (Nat.min sLen dLen)) (w.setRow g (cur.toList.take o ++ cs ++ cur.toList.drop (o + cs.length)).toArray) := by
  have hl := run_loadCells_list (P := P) w a cs hsrc
  have hst := run_storeCells_at P g o t cs 0 cur w hg (by simpa using hfit) h1
  simp [Builtin.copy_, run_underlying hu, Builtin.lenOf, Builtin.firstCells, sizeOf, typeInfo, hi, ← hn, hl, hst]
theorem step_copy_run {P : Program} {ops : Array Oper} {o : Oper} {a : Act} {w : World} {K : Act → World → Prop} {Q : Exit → Act → World → Prop} {E : Prop}
    (hg : o.guard = none) (s x : Operand) (t : TypeId) (hop : o.op = Op.call { callee := Callee.builtin Builtin.copy, args := #[s, x], argTypes := #[t, t] })
    {vs vx v' : Value} {w' : World} (hs : a.eval s = vs) (hx : a.eval x = vx) (hrun : (Builtin.copy_ #[t, t] o.type #[vs, vx]).run P w = .ok v' w') (hK : K (a.put o.dst v') w') :
    if Region.wanted o (yielded ops a.tmps) = true then Oper.wp P o a w K Q else E := by
  have hw : Region.wanted o (yielded ops a.tmps) = true := by simp [Region.wanted, hg]
  rw [if_pos hw]
  unfold Oper.wp
  simp [execOp, hop, resolve, invoke, builtin, hs, hx, hrun, Result.andThen]
  exact hK
set_option maxHeartbeats 4000000 in
set_option maxRecDepth 1000000 in
theorem rep_walk1 (w w1 w2 : World) (g : Nat)
    (hm : (Instr.makeSlice 22 (.int .i64 1) (.int .i64 1)).run Try.prog w = .ok (.slice (some ⟨w.heap.size, 0, none⟩) 1 1) w1)
    (hc1 : ∀ ty, (Builtin.copy_ #[22, 22] ty #[.slice (some ⟨w.heap.size, 0, none⟩) 1 1, .slice (some ⟨g, 0, none⟩) 1 1]).run Try.prog w1 = .ok (.int .i64 1) w2) :
    Calls Try.prog 13 #[.slice (some ⟨g, 0, none⟩) 1 1, .int .i64 1] w fun e w' => e = .returned (.slice (some ⟨w.heap.size, 0, none⟩) 1 1) ∧ w' = w2 := by
  have mixed : Try.prog.follows .mixedOrders = true := by kernel_rfl
  have b1 : bits BinOp.and IntKind.u64 1 4294967295 = 1 := by kernel_rfl
  have b0 : bits BinOp.and IntKind.u64 0 4294967295 = 0 := by kernel_rfl
  go_enter Try.func13, Try.ntmps13
  go_wp2
  refine wp_loop_rounds 1 ?_
  rw [rounds_succ]
  go_wp2
  go_ret
  exact ⟨rfl, rfl⟩
set_option maxHeartbeats 4000000 in
set_option maxRecDepth 1000000 in
theorem rep_walk2 (w w1 w2 w3 : World) (g : Nat)
    (hm : (Instr.makeSlice 22 (.int .i64 2) (.int .i64 2)).run Try.prog w = .ok (.slice (some ⟨w.heap.size, 0, none⟩) 2 2) w1)
    (hc1 : ∀ ty, (Builtin.copy_ #[22, 22] ty #[.slice (some ⟨w.heap.size, 0, none⟩) 2 2, .slice (some ⟨g, 0, none⟩) 1 1]).run Try.prog w1 = .ok (.int .i64 1) w2)
    (hc2 : ∀ ty, (Builtin.copy_ #[22, 22] ty #[.slice (some ⟨w.heap.size, 4, none⟩) 1 1, .slice (some ⟨w.heap.size, 0, none⟩) 1 2]).run Try.prog w2.drew = .ok (.int .i64 1) w3) :
    Calls Try.prog 13 #[.slice (some ⟨g, 0, none⟩) 1 1, .int .i64 2] w fun e w' => e = .returned (.slice (some ⟨w.heap.size, 0, none⟩) 2 2) ∧ w' = w3 := by
  have mixed : Try.prog.follows .mixedOrders = true := by kernel_rfl
  have b1 : bits BinOp.and IntKind.u64 1 4294967295 = 1 := by kernel_rfl
  have bn : bits BinOp.and IntKind.u64 2 4294967295 = 2 := by kernel_rfl
  have b0 : bits BinOp.and IntKind.u64 0 4294967295 = 0 := by kernel_rfl
  go_enter Try.func13, Try.ntmps13
  go_wp2
  refine wp_loop_rounds 2 ?_
  rw [rounds_succ]
  go_wp2_with fail
  go_region_law_o (refine step_copy_run rfl (.tmp 41) (.tmp 44) 22 rfl (by simp [Act.eval, Act.put]) (by simp [Act.eval, Act.put]) (hc2 _) ?_)
  simp only [Exit.inBlock, Exit.then]
  rw [rounds_succ]
  go_wp2
  go_ret
  exact ⟨rfl, rfl⟩
set_option maxHeartbeats 4000000 in
set_option maxRecDepth 1000000 in
theorem rep_walk3 (w w1 w2 w3 w4 : World) (g : Nat)
    (hm : (Instr.makeSlice 22 (.int .i64 3) (.int .i64 3)).run Try.prog w = .ok (.slice (some ⟨w.heap.size, 0, none⟩) 3 3) w1)
    (hc1 : ∀ ty, (Builtin.copy_ #[22, 22] ty #[.slice (some ⟨w.heap.size, 0, none⟩) 3 3, .slice (some ⟨g, 0, none⟩) 1 1]).run Try.prog w1 = .ok (.int .i64 1) w2)
    (hc2 : ∀ ty, (Builtin.copy_ #[22, 22] ty #[.slice (some ⟨w.heap.size, 4, none⟩) 2 2, .slice (some ⟨w.heap.size, 0, none⟩) 1 3]).run Try.prog w2.drew = .ok (.int .i64 1) w3)
    (hc3 : ∀ ty, (Builtin.copy_ #[22, 22] ty #[.slice (some ⟨w.heap.size, 8, none⟩) 1 1, .slice (some ⟨w.heap.size, 0, none⟩) 2 3]).run Try.prog w3.drew = .ok (.int .i64 1) w4) :
    Calls Try.prog 13 #[.slice (some ⟨g, 0, none⟩) 1 1, .int .i64 3] w fun e w' => e = .returned (.slice (some ⟨w.heap.size, 0, none⟩) 3 3) ∧ w' = w4 := by
  have mixed : Try.prog.follows .mixedOrders = true := by kernel_rfl
  have b1 : bits BinOp.and IntKind.u64 1 4294967295 = 1 := by kernel_rfl
  have bn : bits BinOp.and IntKind.u64 3 4294967295 = 3 := by kernel_rfl
  have b0 : bits BinOp.and IntKind.u64 0 4294967295 = 0 := by kernel_rfl
  go_enter Try.func13, Try.ntmps13
  go_wp2
  refine wp_loop_rounds 3 ?_
  rw [rounds_succ]
  go_wp2_with fail
  go_region_law_o (refine step_copy_run rfl (.tmp 41) (.tmp 44) 22 rfl (by simp [Act.eval, Act.put]) (by simp [Act.eval, Act.put]) (hc2 _) ?_)
  simp only [Exit.inBlock, Exit.then]
  rw [rounds_succ]
  go_wp2_with fail
  go_region_law_o (refine step_copy_run rfl (.tmp 41) (.tmp 44) 22 rfl (by simp [Act.eval, Act.put]) (by simp [Act.eval, Act.put]) (hc3 _) ?_)
  simp only [Exit.inBlock, Exit.then]
  rw [rounds_succ]
  go_wp2
  go_ret
  exact ⟨rfl, rfl⟩
set_option maxHeartbeats 4000000 in
set_option maxRecDepth 1000000 in
theorem rep_walk4 (w w1 w2 w3 w4 : World) (g : Nat)
    (hm : (Instr.makeSlice 22 (.int .i64 4) (.int .i64 4)).run Try.prog w = .ok (.slice (some ⟨w.heap.size, 0, none⟩) 4 4) w1)
    (hc1 : ∀ ty, (Builtin.copy_ #[22, 22] ty #[.slice (some ⟨w.heap.size, 0, none⟩) 4 4, .slice (some ⟨g, 0, none⟩) 1 1]).run Try.prog w1 = .ok (.int .i64 1) w2)
    (hc2 : ∀ ty, (Builtin.copy_ #[22, 22] ty #[.slice (some ⟨w.heap.size, 4, none⟩) 3 3, .slice (some ⟨w.heap.size, 0, none⟩) 1 4]).run Try.prog w2.drew = .ok (.int .i64 1) w3)
    (hc3 : ∀ ty, (Builtin.copy_ #[22, 22] ty #[.slice (some ⟨w.heap.size, 8, none⟩) 2 2, .slice (some ⟨w.heap.size, 0, none⟩) 2 4]).run Try.prog w3.drew = .ok (.int .i64 2) w4) :
    Calls Try.prog 13 #[.slice (some ⟨g, 0, none⟩) 1 1, .int .i64 4] w fun e w' => e = .returned (.slice (some ⟨w.heap.size, 0, none⟩) 4 4) ∧ w' = w4 := by
  have mixed : Try.prog.follows .mixedOrders = true := by kernel_rfl
  have b1 : bits BinOp.and IntKind.u64 1 4294967295 = 1 := by kernel_rfl
  have bn : bits BinOp.and IntKind.u64 4 4294967295 = 4 := by kernel_rfl
  have b0 : bits BinOp.and IntKind.u64 0 4294967295 = 0 := by kernel_rfl
  go_enter Try.func13, Try.ntmps13
  go_wp2
  refine wp_loop_rounds 3 ?_
  rw [rounds_succ]
  go_wp2_with fail
  go_region_law_o (refine step_copy_run rfl (.tmp 41) (.tmp 44) 22 rfl (by simp [Act.eval, Act.put]) (by simp [Act.eval, Act.put]) (hc2 _) ?_)
  simp only [Exit.inBlock, Exit.then]
  rw [rounds_succ]
  go_wp2_with fail
  go_region_law_o (refine step_copy_run rfl (.tmp 41) (.tmp 44) 22 rfl (by simp [Act.eval, Act.put]) (by simp [Act.eval, Act.put]) (hc3 _) ?_)
  simp only [Exit.inBlock, Exit.then]
  rw [rounds_succ]
  go_wp2
  go_ret
  exact ⟨rfl, rfl⟩
end Go.Ev
end

section
/- slices.Repeat of one shard that has no slots: what it hands back. -/
set_option linter.unusedVariables false
namespace Go.Ev
open Go.RowKit Go.Proofs

theorem info32 : ∃ i z, Try.prog.info? 32 = some i ∧ i.size = 4 ∧ i.zero = some z ∧ i.bytes ≤ 48 := by
  have h : (match Try.prog.info? 32 with
    | some i => (match i.zero with
      | some z => Nat.beq i.size 4 && Nat.ble i.bytes 48
      | none => false)
    | none => false) = true := by kernel_rfl
  split at h
  · next i hi =>
    split at h
    · next z hz =>
      simp only [Bool.and_eq_true] at h
      exact ⟨i, z, hi, beq_nat h.1, hz, Nat.le_of_ble_eq_true h.2⟩
    · cases h
  · cases h
def shX (a b : Int) : List Value := [.int .i64 a, .int .i64 b, .slice none 0 0, .int .i64 0]
def shR (a b : Int) : Nat → List Value
  | 0 => []
  | n + 1 => shX a b ++ shR a b n
theorem shR_len {a b : Int} : ∀ n, (shR a b n).length = n * 4
  | 0 => rfl
  | n + 1 => by simp only [shR, List.length_append, shR_len n]; simp [shX]; omega
theorem shR_add {a b : Int} : ∀ n m, shR a b n ++ shR a b m = shR a b (n + m)
  | 0, m => by simp [shR]
  | n + 1, m => by
    rw [show n + 1 + m = (n + m) + 1 by omega]
    simp only [shR, List.append_assoc, shR_add n m]
theorem shR_one {a b : Int} : ∀ n, ∀ v ∈ shR a b n, v.oneCell' = true
  | 0, v, h => by simp [shR] at h
  | n + 1, v, h => by
    simp only [shR] at h
    rcases List.mem_append.1 h with h | h
    · simp only [shX, List.mem_cons, List.not_mem_nil, or_false] at h
      rcases h with rfl | rfl | rfl | rfl <;> rfl
    · exact shR_one n v h
theorem shR_take {a b : Int} {m cp : Nat} (h : cp ≤ m) (R : List Value) : (shR a b m ++ R).take (cp * 4) = shR a b cp := by
  obtain ⟨k, rfl⟩ : ∃ k, m = cp + k := ⟨m - cp, by omega⟩
  rw [← shR_add, List.append_assoc, List.take_append_of_le_length (by rw [shR_len]; omega), List.take_of_length_le (by rw [shR_len]; omega)]
theorem cp_step {a b : Int} (w : World) (H m cp l c sl sc : Nat) (cur : Array Value) (R : List Value) (hh : w.heap[H]? = some (.cells cur 32 (0, 0))) (hcur : cur.toList = shR a b m ++ R) (hmin : Nat.min sl l = cp) (hcm : cp ≤ m) (hR : cp * 4 ≤ R.length) (ty : TypeId) :
    (Builtin.copy_ #[22, 22] ty #[.slice (some ⟨H, m * 4, none⟩) l c, .slice (some ⟨H, 0, none⟩) sl sc]).run Try.prog w = .ok (.int .i64 cp) (w.setRow H (shR a b (m + cp) ++ R.drop (cp * 4)).toArray) := by
  obtain ⟨i, z, hi, hsz, _, _⟩ := info32
  have hlen : cur.size = m * 4 + R.length := by
    rw [← Array.length_toList, hcur, List.length_append, shR_len]
  have := run_copy_rowN (P := Try.prog) w 22 22 ty 32 i H (m * 4) l c ⟨H, 0, none⟩ sl sc cur 32 (shR a b cp) Try.underlying22 hi hh (by rw [hmin, hsz, shR_len]) (fun j v hv => by
    rw [addr_add, cell_row hh]
    have hj := (List.getElem?_eq_some_iff.1 hv).1
    have : (cur.toList.take (cp * 4))[j]? = some v := by rw [hcur, shR_take hcm]; exact hv
    rw [List.getElem?_take] at this
    split at this
    · simpa using this
    · cases this) (by rw [hlen, shR_len]; omega) (shR_one cp)
  rw [hmin] at this
  rw [this]
  have e : cur.toList.take (m * 4) ++ shR a b cp ++ cur.toList.drop (m * 4 + (shR a b cp).length) = shR a b (m + cp) ++ R.drop (cp * 4) := by
    rw [hcur, shR_take (Nat.le_refl m), shR_add, shR_len, List.drop_append, List.drop_of_length_le (by rw [shR_len]; omega), List.nil_append, shR_len]
    congr 2
    omega
  rw [e]
  rfl
structure Rep (a b : Int) (n : Nat) (w w' : World) : Prop where
  os : w'.os = w.os
  tape : w'.tape = w.tape
  output : w'.output = w.output
  size : w'.heap.size = w.heap.size + 1
  old : ∀ k, k < w.heap.size → w'.heap[k]? = w.heap[k]?
  new : w'.heap[w.heap.size]? = some (.cells (shR a b n).toArray 32 (0, 0))
theorem set_cells {w : World} {H : Nat} {cur : Array Value} (hh : w.heap[H]? = some (.cells cur 32 (0, 0))) (cs : Array Value) : (w.setRow H cs).heap[H]? = some (.cells cs 32 (0, 0)) ∧ (w.setRow H cs).heap.size = w.heap.size ∧ (∀ k, k ≠ H → (w.setRow H cs).heap[k]? = w.heap[k]?) :=
  ⟨setRow_heap w H cur cs 32 (0, 0) hh, by simp [World.setRow], fun k hk => setRow_other w H k cs hk⟩
theorem rep_start (a b : Int) (n : Nat) (hn : 1 ≤ n ∧ n ≤ 4) (w : World) (g : Nat) (hg : w.heap[g]? = some (.cells (shX a b).toArray 32 (0, 0))) :
    ∃ w1 w2 R, (Instr.makeSlice 22 (.int .i64 (n : Int)) (.int .i64 (n : Int))).run Try.prog w = .ok (.slice (some ⟨w.heap.size, 0, none⟩) n n) w1 ∧
      (∀ ty, (Builtin.copy_ #[22, 22] ty #[.slice (some ⟨w.heap.size, 0, none⟩) n n, .slice (some ⟨g, 0, none⟩) 1 1]).run Try.prog w1 = .ok (.int .i64 1) w2) ∧
      w2.os = w.os ∧ w2.tape = w.tape ∧ w2.output = w.output ∧ w2.heap.size = w.heap.size + 1 ∧ (∀ k, k < w.heap.size → w2.heap[k]? = w.heap[k]?) ∧ w2.heap[w.heap.size]? = some (.cells (shR a b 1 ++ R).toArray 32 (0, 0)) ∧ R.length = (n - 1) * 4 := by
  obtain ⟨i, z, hi, hsz, hz, hby⟩ := info32
  have hm := run_makeSlice (P := Try.prog) (w := w) 22 32 i z Try.underlying22 hi hz .i64 .i64 n n (by omega) (by omega) (by rw [hsz]; omega) (by
    have h1 : (i.bytes : Int) ≤ 48 := by exact_mod_cast hby
    have h2 : (i.bytes : Int) * (n : Int) ≤ 48 * 4 := Int.mul_le_mul h1 (by omega) (by omega) (by omega)
    omega) (by omega)
  have hgw : g < w.heap.size := (Array.getElem?_eq_some_iff.1 hg).1
  rw [Int.toNat_natCast] at hm
  have hZ : (madeCells z.cells (n * i.size)).size = n * 4 := by rw [size_madeCells, hsz]
  have hnew : (w.alloc (.cells (madeCells z.cells (n * i.size)) 32)).heap[w.heap.size]? = some (.cells (madeCells z.cells (n * i.size)) 32 (0, 0)) := heap_alloc_new w _
  have hold : ∀ k, k < w.heap.size → (w.alloc (.cells (madeCells z.cells (n * i.size)) 32)).heap[k]? = w.heap[k]? := fun k hk => heap_alloc_old w _ hk
  have hx : (shX a b).length = 4 := rfl
  have hmn : Nat.min 1 n = 1 := Nat.min_eq_left hn.1
  obtain ⟨s1, s2, s3⟩ := set_cells hnew (shR a b 1 ++ (madeCells z.cells (n * i.size)).toList.drop 4).toArray
  refine ⟨_, _, (madeCells z.cells (n * i.size)).toList.drop 4, hm, fun ty => ?_, ?_, ?_, ?_, ?_, ?_, s1, ?_⟩
  · have := run_copy_rowN (P := Try.prog) (w.alloc (.cells (madeCells z.cells (n * i.size)) 32)) 22 22 ty 32 i w.heap.size 0 n n ⟨g, 0, none⟩ 1 1 _ 32 (shX a b) Try.underlying22 hi hnew (by rw [hsz, hx, hmn]) (fun j v hv => by
      rw [addr_add, cell_row ((hold g hgw).trans hg)]
      simpa using hv) (by rw [hZ, hx]; omega) (fun v hv => shR_one 1 v (by simpa [shR] using hv))
    rw [hmn] at this
    rw [this]
    simp only [List.take_zero, List.nil_append, hx, Nat.zero_add, shR, List.append_nil]
    rfl
  · rfl
  · rfl
  · rfl
  · rw [s2]; simp
  · intro k hk
    rw [s3 k (by omega)]
    exact hold k hk
  · rw [List.length_drop, Array.length_toList, hZ]
    omega
theorem rep_next {a b : Int} {w w2 : World} {H m : Nat} {R : List Value} (cp l c sl sc : Nat) (hh : w2.heap[H]? = some (.cells (shR a b m ++ R).toArray 32 (0, 0))) (hmin : Nat.min sl l = cp) (hcm : cp ≤ m) (hR : cp * 4 ≤ R.length) :
    ∃ w3, (∀ ty, (Builtin.copy_ #[22, 22] ty #[.slice (some ⟨H, m * 4, none⟩) l c, .slice (some ⟨H, 0, none⟩) sl sc]).run Try.prog w2.drew = .ok (.int .i64 cp) w3) ∧ w3.os = w2.os ∧ w3.tape = w2.tape ∧ w3.output = w2.output ∧ w3.heap.size = w2.heap.size ∧ (∀ k, k ≠ H → w3.heap[k]? = w2.heap[k]?) ∧ w3.heap[H]? = some (.cells (shR a b (m + cp) ++ R.drop (cp * 4)).toArray 32 (0, 0)) := by
  have hd : w2.drew.heap[H]? = some (.cells (shR a b m ++ R).toArray 32 (0, 0)) := hh
  obtain ⟨s1, s2, s3⟩ := set_cells hd (shR a b (m + cp) ++ R.drop (cp * 4)).toArray
  exact ⟨_, fun ty => cp_step w2.drew H m cp l c sl sc _ R hd rfl hmin hcm hR ty, rfl, rfl, rfl, s2, s3, s1⟩
theorem rep_raw (a b : Int) (n : Nat) (hn : 1 ≤ n ∧ n ≤ 4) (w : World) (g : Nat) (hg : w.heap[g]? = some (.cells (shX a b).toArray 32 (0, 0))) :
    ∃ w', Calls Try.prog 13 #[.slice (some ⟨g, 0, none⟩) 1 1, .int .i64 (n : Int)] w (fun e v => e = .returned (.slice (some ⟨w.heap.size, 0, none⟩) n n) ∧ v = w') ∧ Rep a b n w w' := by
  obtain ⟨w1, w2, R, hm, hc, o1, o2, o3, o4, o5, o6, hR⟩ := rep_start a b n hn w g hg
  have h4 : n = 1 ∨ n = 2 ∨ n = 3 ∨ n = 4 := by omega
  rcases h4 with rfl | rfl | rfl | rfl
  · have : R = [] := List.eq_nil_of_length_eq_zero (by omega)
    subst this
    rw [List.append_nil] at o6
    exact ⟨w2, rep_walk1 w w1 w2 g hm hc, o1, o2, o3, o4, o5, o6⟩
  · obtain ⟨w3, k, p1, p2, p3, p4, p5, p6⟩ := rep_next (a := a) (b := b) (m := 1) (w := w) 1 1 1 1 2 o6 rfl (by omega) (by omega)
    have : R.drop (1 * 4) = [] := List.drop_of_length_le (by omega)
    rw [this, List.append_nil] at p6
    exact ⟨w3, rep_walk2 w w1 w2 w3 g hm hc k, p1.trans o1, p2.trans o2, p3.trans o3, p4.trans o4, fun j hj => (p5 j (by omega)).trans (o5 j hj), p6⟩
  · obtain ⟨w3, k, p1, p2, p3, p4, p5, p6⟩ := rep_next (a := a) (b := b) (m := 1) (w := w) 1 2 2 1 3 o6 rfl (by omega) (by omega)
    obtain ⟨w4, k', q1, q2, q3, q4, q5, q6⟩ := rep_next (a := a) (b := b) (m := 2) (w := w) 1 1 1 2 3 p6 rfl (by omega) (by rw [List.length_drop]; omega)
    have : (R.drop (1 * 4)).drop (1 * 4) = [] := List.drop_of_length_le (by rw [List.length_drop]; omega)
    rw [this, List.append_nil] at q6
    exact ⟨w4, rep_walk3 w w1 w2 w3 w4 g hm hc k k', q1.trans (p1.trans o1), q2.trans (p2.trans o2), q3.trans (p3.trans o3), q4.trans (p4.trans o4), fun j hj => (q5 j (by omega)).trans ((p5 j (by omega)).trans (o5 j hj)), q6⟩
  · obtain ⟨w3, k, p1, p2, p3, p4, p5, p6⟩ := rep_next (a := a) (b := b) (m := 1) (w := w) 1 3 3 1 4 o6 rfl (by omega) (by omega)
    obtain ⟨w4, k', q1, q2, q3, q4, q5, q6⟩ := rep_next (a := a) (b := b) (m := 2) (w := w) 2 2 2 2 4 p6 rfl (by omega) (by rw [List.length_drop]; omega)
    have : (R.drop (1 * 4)).drop (2 * 4) = [] := List.drop_of_length_le (by rw [List.length_drop]; omega)
    rw [this, List.append_nil] at q6
    exact ⟨w4, rep_walk4 w w1 w2 w3 w4 g hm hc k k', q1.trans (p1.trans o1), q2.trans (p2.trans o2), q3.trans (p3.trans o3), q4.trans (p4.trans o4), fun j hj => (q5 j (by omega)).trans ((p5 j (by omega)).trans (o5 j hj)), q6⟩
end Go.Ev
end

section
/- impl.CacheNew: the walk. -/
set_option linter.unusedVariables false
namespace Go.Ev
open Go.RowKit Go.Proofs
set_option maxHeartbeats 4000000 in
set_option maxRecDepth 1000000 in
theorem in_walk (x lo hi : Int) (w : World) : Calls Try.prog 11 #[.int .i64 x, .int .i64 lo, .int .i64 hi] w fun e w' => e = .returned (.bool (decide (lo ≤ x ∧ x ≤ hi))) ∧ w' = w := by
  by_cases h1 : lo ≤ x
  · by_cases h2 : x ≤ hi
    · rw [show decide (lo ≤ x ∧ x ≤ hi) = true from decide_eq_true ⟨h1, h2⟩]
      go_enter Try.func11, Try.ntmps11
      go_wp2
      go_ret
      exact ⟨rfl, rfl⟩
    · rw [show decide (lo ≤ x ∧ x ≤ hi) = false from decide_eq_false (fun h => h2 h.2)]
      go_enter Try.func11, Try.ntmps11
      go_wp2
      go_ret
      exact ⟨by simp [h2], rfl⟩
  · rw [show decide (lo ≤ x ∧ x ≤ hi) = false from decide_eq_false (fun h => h1 h.1)]
    go_enter Try.func11, Try.ntmps11
    go_wp2
    go_ret
    exact ⟨rfl, rfl⟩
set_option maxHeartbeats 4000000 in
set_option maxRecDepth 1000000 in
theorem sizes_walk (a b : Int) (w : World) : Calls Try.prog 12 #[.int .i64 a, .int .i64 b] w fun e w' => e = .returned (.bool (decide ((1 ≤ a ∧ a ≤ 8) ∧ (0 ≤ b ∧ b ≤ 500)))) ∧ w' = w := by
  by_cases h1 : 1 ≤ a ∧ a ≤ 8
  · have e1 : decide ((1 ≤ a ∧ a ≤ 8) ∧ (0 ≤ b ∧ b ≤ 500)) = decide (0 ≤ b ∧ b ≤ 500) := by simp [h1]
    have d1 : decide (1 ≤ a ∧ a ≤ 8) = true := decide_eq_true h1
    rw [e1]
    go_enter Try.func12, Try.ntmps12
    go_wp2_with (go_at_call 11; refine (in_walk _ _ _ _).mono ?_; rintro e w' ⟨rfl, rfl⟩)
    go_ret
    exact ⟨by simp, rfl⟩
  · have e1 : decide ((1 ≤ a ∧ a ≤ 8) ∧ (0 ≤ b ∧ b ≤ 500)) = false := decide_eq_false (fun h => h1 h.1)
    have d1 : decide (1 ≤ a ∧ a ≤ 8) = false := decide_eq_false h1
    rw [e1]
    go_enter Try.func12, Try.ntmps12
    go_wp2_with (go_at_call 11; refine ((in_walk a 1 8 _).mono ?_); rw [d1]; rintro e w' ⟨rfl, rfl⟩)
    go_ret
    exact ⟨rfl, rfl⟩
set_option maxHeartbeats 4000000 in
set_option maxRecDepth 1000000 in
theorem sn_walk (a b : Int) (w : World) (h : (1 ≤ a ∧ a ≤ 8) ∧ (0 ≤ b ∧ b ≤ 500)) : Calls Try.prog 14 #[.int .i64 a, .int .i64 b] w fun e w' => e = .returned (.agg #[.int .i64 a, .int .i64 b, .slice none 0 0, .int .i64 0]) ∧ w' = w.alloc (.cells #[.int .i64 a, .int .i64 b, .slice none 0 0, .int .i64 0] 32) := by
  have d1 : decide ((1 ≤ a ∧ a ≤ 8) ∧ (0 ≤ b ∧ b ≤ 500)) = true := decide_eq_true h
  have hs : ∀ w, Calls Try.prog 12 #[.int .i64 a, .int .i64 b] w fun e w' => e = .returned (.bool true) ∧ w' = w := fun w => (sizes_walk a b w).mono fun e w' h => by rw [d1] at h; exact h
  clear d1 h
  go_enter Try.func14, Try.ntmps14
  go_wp2_with (go_at_call 12; refine (hs _).mono ?_; rintro e w' ⟨rfl, rfl⟩)
  refine bodyPost_ret (v := .agg #[.int .i64 a, .int .i64 b, .slice none 0 0, .int .i64 0]) ?_ rfl ⟨rfl, ?_⟩
  · simp [results, Try.results14, go_sem]
  · rfl
theorem oneOff_set {g : Nat} {w w' : World} (h : OneOff g w w') (o : Nat) (v : Value) : OneOff g w (w'.setCell ⟨g, o, none⟩ v) :=
  ⟨h.os, h.tape, h.output, by simpa [World.setCell] using h.size, fun k hk => by
    rw [← h.heap k hk]
    simp [World.setCell, Array.getElem?_modify, Ne.symm hk]⟩
set_option maxHeartbeats 4000000 in
set_option maxRecDepth 1000000 in
theorem cn_good (a b : Int) (n g : Nat) (w w3 : World) (hn : 1 ≤ n ∧ n ≤ 4) (h : (1 ≤ a ∧ a ≤ 8) ∧ (0 ≤ b ∧ b ≤ 500))
    (hrep : Calls Try.prog 13 #[.slice (some ⟨w.heap.size + 1 + 1, 0, none⟩) 1 1, .int .i64 (n : Int)] (((w.alloc (.cells #[.slice none 0 0, .slice none 0 0] 25)).alloc (.cells #[.int .i64 a, .int .i64 b, .slice none 0 0, .int .i64 0] 32)).alloc (.cells #[.int .i64 a, .int .i64 b, .slice none 0 0, .int .i64 0] 32)) fun e v => e = .returned (.slice (some ⟨g, 0, none⟩) n n) ∧ v = w3)
    (c0 : w3.cell? ⟨w.heap.size, 0, none⟩ = some (.slice none 0 0)) (c1 : w3.cell? ⟨w.heap.size, 1, none⟩ = some (.slice none 0 0)) (f0 : w3.frozen? ⟨w.heap.size, 0, none⟩ = false) (f1 : w3.frozen? ⟨w.heap.size, 1, none⟩ = false) :
    Calls Try.prog 5 #[.int .i64 (n : Int), .int .i64 a, .int .i64 b] w fun e w' => e = .returned (.agg #[.slice (some ⟨g, 0, none⟩) n n, .slice none 0 0]) ∧ OneOff w.heap.size w3 w' := by
  have d1 : decide ((1 ≤ a ∧ a ≤ 8) ∧ (0 ≤ b ∧ b ≤ 500)) = true := decide_eq_true h
  have d2 : decide ((1 : Int) ≤ (n : Int) ∧ (n : Int) ≤ 4) = true := decide_eq_true (by omega)
  have hs : ∀ w, Calls Try.prog 12 #[.int .i64 a, .int .i64 b] w fun e w' => e = .returned (.bool true) ∧ w' = w := fun w => (sizes_walk a b w).mono fun e w' h => by rw [d1] at h; exact h
  have hi : ∀ w, Calls Try.prog 11 #[.int .i64 (n : Int), .int .i64 1, .int .i64 4] w fun e w' => e = .returned (.bool true) ∧ w' = w := fun w => (in_walk n 1 4 w).mono fun e w' h => by rw [d2] at h; exact h
  have hsn := fun w => sn_walk a b w h
  clear d1 d2 h
  go_enter Try.func5, Try.ntmps5
  go_wp2_with (first
    | (go_at_call 11; refine (hi _).mono ?_; rintro e w' ⟨rfl, rfl⟩)
    | (go_at_call 12; refine (hs _).mono ?_; rintro e w' ⟨rfl, rfl⟩)
    | (go_at_call 14; refine (hsn _).mono ?_; rintro e w' ⟨rfl, rfl⟩)
    | (go_at_call 13; refine hrep.mono ?_; rintro e w' ⟨rfl, rfl⟩))
  refine bodyPost_ret (v := .agg #[.slice (some ⟨g, 0, none⟩) n n, .slice none 0 0]) ?_ rfl ⟨rfl, ?_⟩
  · simp [results, Try.results5, go_sem, c0, c1]
  · repeat (with_reducible refine oneOff_set ?_ _ _)
    with_reducible exact OneOff.refl _ _
set_option maxHeartbeats 4000000 in
set_option maxRecDepth 1000000 in
theorem cn_bad (a b n : Int) (w : World) (h : ¬ ((1 ≤ n ∧ n ≤ 4) ∧ (1 ≤ a ∧ a ≤ 8) ∧ (0 ≤ b ∧ b ≤ 500))) :
    Calls Try.prog 5 #[.int .i64 n, .int .i64 a, .int .i64 b] w fun e w' => e = .returned (.agg #[.slice none 0 0, .slice none 0 0]) ∧ w' = w.alloc (.cells #[.slice none 0 0, .slice none 0 0] 25) := by
  by_cases h1 : 1 ≤ n ∧ n ≤ 4
  · have d1 : decide ((1 ≤ a ∧ a ≤ 8) ∧ (0 ≤ b ∧ b ≤ 500)) = false := decide_eq_false (fun h2 => h ⟨h1, h2⟩)
    have d2 : decide (1 ≤ n ∧ n ≤ 4) = true := decide_eq_true h1
    have hs : ∀ w, Calls Try.prog 12 #[.int .i64 a, .int .i64 b] w fun e w' => e = .returned (.bool false) ∧ w' = w := fun w => (sizes_walk a b w).mono fun e w' h => by rw [d1] at h; exact h
    have hi : ∀ w, Calls Try.prog 11 #[.int .i64 n, .int .i64 1, .int .i64 4] w fun e w' => e = .returned (.bool true) ∧ w' = w := fun w => (in_walk n 1 4 w).mono fun e w' h => by rw [d2] at h; exact h
    clear d1 d2 h h1
    go_enter Try.func5, Try.ntmps5
    go_wp2_with (first
      | (go_at_call 11; refine (hi _).mono ?_; rintro e w' ⟨rfl, rfl⟩)
      | (go_at_call 12; refine (hs _).mono ?_; rintro e w' ⟨rfl, rfl⟩))
    refine bodyPost_ret (v := .agg #[.slice none 0 0, .slice none 0 0]) ?_ rfl ⟨rfl, rfl⟩
    simp [results, Try.results5, go_sem]
  · have d2 : decide (1 ≤ n ∧ n ≤ 4) = false := decide_eq_false h1
    have hi : ∀ w, Calls Try.prog 11 #[.int .i64 n, .int .i64 1, .int .i64 4] w fun e w' => e = .returned (.bool false) ∧ w' = w := fun w => (in_walk n 1 4 w).mono fun e w' h => by rw [d2] at h; exact h
    clear d2 h h1
    go_enter Try.func5, Try.ntmps5
    go_wp2_with (go_at_call 11; refine (hi _).mono ?_; rintro e w' ⟨rfl, rfl⟩)
    refine bodyPost_ret (v := .agg #[.slice none 0 0, .slice none 0 0]) ?_ rfl ⟨rfl, rfl⟩
    simp [results, Try.results5, go_sem]
end Go.Ev
end

section
/- The plain library: what the program's functions compute, as Lean functions; and what they ask of their arguments. -/
set_option linter.unusedVariables false
namespace Go.Ev
def mIn (n lo hi : Int) : Bool := decide (lo ≤ n) && decide (n ≤ hi)
def pIn (n lo hi : Int) : Prop := True

def mItoa (n : Int) : S := ob (Lib.itoa n)
def mDec (n : Int) : S := mItoa n
def mShardSizes (a b : Int) : Bool := mIn a 1 8 && mIn b 0 500
end Go.Ev
end

section
/- The plain library: what a cache's functions compute. -/
set_option linter.unusedVariables false
namespace Go.Ev
end Go.Ev
end

section
/- The plain library: what the laws' marks are. -/
set_option linter.unusedVariables false
namespace Go.Ev
def mMarkText (k : Int) : S := if k ≤ 0 then lit [109, 48] else lit [109] ++ mDec k
def pMarkText (k : Int) : Prop := in64 k
def markFld : List Fld → Int → List Fld
  | [], _ => []
  | _ :: r, k => (mMarkText k, mMarkText (k + 1)) :: markFld r (k + 2)
def heldFld : List Fld → Int → Int
  | [], k => k
  | f :: r, k => if f.1 ≠ mMarkText k then -1 else if f.2 ≠ mMarkText (k + 1) then -1 else heldFld r (k + 2)
def pMk (n : Nat) (k : Int) : Prop := 0 ≤ k ∧ k ≤ 1099511627776 ∧ n ≤ 1099511627776
def mMarkFieldS (l : List Fld) (k : Int) : Int := k + 2 * l.length
def wMarkFieldS (l : List Fld) (k : Int) : List Fld × Int := (markFld l k, k)
def pMarkFieldS (l : List Fld) (k : Int) : Prop := pMk l.length k
def mHeldFieldS (l : List Fld) (k : Int) : Int := heldFld l k
def pHeldFieldS (l : List Fld) (k : Int) : Prop := pMk l.length k
theorem markFld_length : ∀ (l : List Fld) (k : Int), (markFld l k).length = l.length
  | [], _ => rfl
  | _ :: r, k => by simp [markFld, markFld_length r]
theorem held_mark : ∀ (l : List Fld) (k : Int), heldFld (markFld l k) k = k + 2 * l.length
  | [], k => by simp [markFld, heldFld]
  | _ :: r, k => by
    simp only [markFld, heldFld, ne_eq, not_true_eq_false, if_false, held_mark r, List.length_cons]
    omega
theorem markFld_get : ∀ (l : List Fld) (k : Int) (i : Nat) (h : i < l.length), (markFld l k)[i]'(by rw [markFld_length]; exact h) = (mMarkText (k + 2 * i), mMarkText (k + 2 * i + 1))
  | f :: r, k, 0, h => by simp [markFld]
  | f :: r, k, i + 1, h => by
    simp only [markFld, List.getElem_cons_succ]
    rw [markFld_get r (k + 2) i (by simpa using h)]
    rw [show k + 2 + 2 * (i : Int) = k + 2 * ((i + 1 : Nat) : Int) by omega]
end Go.Ev
end

section
/- The plain library: marks of texts in a row, FieldSet and WithAge. -/
set_option linter.unusedVariables false
namespace Go.Ev
end Go.Ev
end

section
/- The plain library: marks of what has slices in its slices; copies; ShardTouch. -/
set_option linter.unusedVariables false
namespace Go.Ev
def markL {α : Type} (f : α → Int → α) (c : α → Nat) : List α → Int → List α
  | [], _ => []
  | x :: r, k => f x k :: markL f c r (k + c x)
theorem markL_length {α : Type} {f : α → Int → α} {c : α → Nat} : ∀ (l : List α) (k : Int), (markL f c l k).length = l.length
  | [], _ => rfl
  | x :: r, k => by simp [markL, markL_length r]
theorem markL_get {α : Type} {f : α → Int → α} {c : α → Nat} : ∀ (l : List α) (k : Int) (i : Nat) (h : i < l.length), (markL f c l k)[i]'(by rw [markL_length]; exact h) = f l[i] (k + (sumN ((l.take i).map c) : Nat))
  | x :: r, k, 0, h => by simp [markL, sumN]
  | x :: r, k, i + 1, h => by
    simp only [markL, List.getElem_cons_succ, List.take_succ_cons, List.map_cons, sumN]
    rw [markL_get r (k + c x) i (by simpa using h)]
    congr 1
    omega
theorem markL_cnt {α : Type} {f : α → Int → α} {c : α → Nat} (hc : ∀ x k, c (f x k) = c x) : ∀ (l : List α) (k : Int), sumN ((markL f c l k).map c) = sumN (l.map c)
  | [], _ => rfl
  | x :: r, k => by simp [markL, sumN, hc, markL_cnt hc r]
theorem markL_idem {α : Type} {f : α → Int → α} {c : α → Nat} (hc : ∀ x k, c (f x k) = c x) (hf : ∀ x k, f (f x k) k = f x k) : ∀ (l : List α) (k : Int), markL f c (markL f c l k) k = markL f c l k
  | [], _ => rfl
  | x :: r, k => by simp [markL, hf, hc, markL_idem hc hf r]
theorem sum_ge_len {α : Type} {c : α → Nat} {m : Nat} (h : ∀ x, m ≤ c x) : ∀ (l : List α), m * l.length ≤ sumN (l.map c)
  | [] => by simp
  | x :: r => by
    have := sum_ge_len h r
    have := h x
    simp only [List.map_cons, sumN, List.length_cons, Nat.mul_add]
    omega
theorem sum_take_succ {α : Type} {c : α → Nat} {l : List α} {i : Nat} (h : i < l.length) : sumN ((l.take (i + 1)).map c) = sumN ((l.take i).map c) + c l[i] := by
  induction l generalizing i with
  | nil => simp at h
  | cons x r ih =>
    cases i with
    | zero => simp [sumN]
    | succ i =>
      simp only [List.take_succ_cons, List.map_cons, sumN, List.getElem_cons_succ]
      rw [ih (by simpa using h)]
      omega
theorem sum_take_le {α : Type} (c : α → Nat) (l : List α) (i : Nat) : sumN ((l.take i).map c) ≤ sumN (l.map c) := by
  induction l generalizing i with
  | nil => simp
  | cons x r ih =>
    cases i with
    | zero => simp [sumN]
    | succ i =>
      simp only [List.take_succ_cons, List.map_cons, sumN]
      have := ih i
      omega
theorem sum_at {α : Type} {c : α → Nat} {l : List α} {i : Nat} (h : i < l.length) : sumN ((l.take i).map c) + c l[i] ≤ sumN (l.map c) := by
  rw [← sum_take_succ h]
  exact sum_take_le c l (i + 1)
def pMn (n : Nat) (k : Int) : Prop := 0 ≤ k ∧ k + (n : Int) ≤ 1099511627776
def cntSlt (x : Slt) : Nat := 6 + 2 * x.2.1.length + 2 * x.2.2.2.1.length
def markSlt (x : Slt) (k : Int) : Slt :=
  (mMarkText k, markFld x.2.1 (k + 1), k + 1 + 2 * (x.2.1.length : Int), markFld x.2.2.2.1 (k + 1 + 2 * (x.2.1.length : Int) + 1), mMarkText (k + 1 + 2 * (x.2.1.length : Int) + 1 + 2 * (x.2.2.2.1.length : Int)),
    k + 1 + 2 * (x.2.1.length : Int) + 1 + 2 * (x.2.2.2.1.length : Int) + 1, k + 1 + 2 * (x.2.1.length : Int) + 1 + 2 * (x.2.2.2.1.length : Int) + 1 + 1,
    decide ((k + 1 + 2 * (x.2.1.length : Int) + 1 + 2 * (x.2.2.2.1.length : Int) + 1 + 1 + 1).tmod 3 = 0))
theorem markFld_idem : ∀ (l : List Fld) (k : Int), markFld (markFld l k) k = markFld l k
  | [], _ => rfl
  | _ :: r, k => by simp [markFld, markFld_idem r]
theorem cnt_markSlt (x : Slt) (k : Int) : cntSlt (markSlt x k) = cntSlt x := by simp [cntSlt, markSlt, markFld_length]
theorem markSlt_idem (x : Slt) (k : Int) : markSlt (markSlt x k) k = markSlt x k := by simp [markSlt, markFld_length, markFld_idem]
def mMarkSlotS (l : List Slt) (k : Int) : Int := k + (sumN (l.map cntSlt) : Nat)
def wMarkSlotS (l : List Slt) (k : Int) : List Slt × Int := (markL markSlt cntSlt l k, k)
def pMarkSlotS (l : List Slt) (k : Int) : Prop := pMn (sumN (l.map cntSlt)) k
def mHeldSlotS (l : List Slt) (k : Int) : Int := k + (sumN (l.map cntSlt) : Nat)
def pHeldSlotS (l : List Slt) (k : Int) : Prop := pMn (sumN (l.map cntSlt)) k ∧ markL markSlt cntSlt l k = l
def cntShd (x : Shd) : Nat := 3 + sumN (x.2.2.1.map cntSlt)
def markShd (x : Shd) (k : Int) : Shd := (k, k + 1, markL markSlt cntSlt x.2.2.1 (k + 1 + 1), k + 1 + 1 + (sumN (x.2.2.1.map cntSlt) : Nat))
theorem cnt_markShd (x : Shd) (k : Int) : cntShd (markShd x k) = cntShd x := by simp [cntShd, markShd, markL_cnt cnt_markSlt]
theorem markShd_idem (x : Shd) (k : Int) : markShd (markShd x k) k = markShd x k := by simp [markShd, markL_cnt cnt_markSlt, markL_idem cnt_markSlt markSlt_idem]
def mMarkShardS (l : List Shd) (k : Int) : Int := k + (sumN (l.map cntShd) : Nat)
def wMarkShardS (l : List Shd) (k : Int) : List Shd × Int := (markL markShd cntShd l k, k)
def pMarkShardS (l : List Shd) (k : Int) : Prop := pMn (sumN (l.map cntShd)) k
def mHeldShardS (l : List Shd) (k : Int) : Int := k + (sumN (l.map cntShd) : Nat)
def pHeldShardS (l : List Shd) (k : Int) : Prop := pMn (sumN (l.map cntShd)) k ∧ markL markShd cntShd l k = l
def cntGen (_ : Gen) : Nat := 2
def markGen (_ : Gen) (k : Int) : Gen := (mMarkText k, k + 1)
theorem sum_gen : ∀ (l : List Gen), sumN (l.map cntGen) = 2 * l.length
  | [] => rfl
  | _ :: r => by simp only [List.map_cons, sumN, sum_gen r, cntGen, List.length_cons]; omega
def mMarkGenRowS (l : List Gen) (k : Int) : Int := k + (sumN (l.map cntGen) : Nat)
def wMarkGenRowS (l : List Gen) (k : Int) : List Gen × Int := (markL markGen cntGen l k, k)
def pMarkGenRowS (l : List Gen) (k : Int) : Prop := pMn (sumN (l.map cntGen)) k
def mHeldGenRowS (l : List Gen) (k : Int) : Int := k + (sumN (l.map cntGen) : Nat)
def pHeldGenRowS (l : List Gen) (k : Int) : Prop := pMn (sumN (l.map cntGen)) k ∧ markL markGen cntGen l k = l
def mMarkCache (c : Cch) (k : Int) : Int := mMarkGenRowS c.2 (mMarkShardS c.1 k)
def wMarkCache (c : Cch) (k : Int) : Cch × Int := ((markL markShd cntShd c.1 k, markL markGen cntGen c.2 (mMarkShardS c.1 k)), k)
def pMarkCache (c : Cch) (k : Int) : Prop := pMn (sumN (c.1.map cntShd) + sumN (c.2.map cntGen)) k
def mHeldCache (c : Cch) (k : Int) : Int := mHeldGenRowS c.2 (mHeldShardS c.1 k)
def pHeldCache (c : Cch) (k : Int) : Prop := pMn (sumN (c.1.map cntShd) + sumN (c.2.map cntGen)) k ∧ markL markShd cntShd c.1 k = c.1 ∧ markL markGen cntGen c.2 (mHeldShardS c.1 k) = c.2
end Go.Ev
end

section
/- The plain library: new caches. -/
set_option linter.unusedVariables false
namespace Go.Ev
def mShardNew (a b : Int) : Shd := if mShardSizes a b = true then (a, b, [], 0) else (0, 0, [], 0)
def pShardNew (a b : Int) : Prop := True
def mCacheNew (n a b : Int) : Cch := if mIn n 1 4 = true ∧ mShardSizes a b = true then (List.replicate n.toNat (a, b, [], 0), []) else ([], [])
def pCacheNew (n a b : Int) : Prop := True
end Go.Ev
end

section
/- impl.CacheNew: what it keeps as a contract. -/
set_option linter.unusedVariables false
namespace Go.Ev
open Go.RowKit Go.Proofs
abbrev LSl : List L := [.str, .list 67 [.str, .str], .int .i64, .list 67 [.str, .str], .str, .int .i64, .int .i64, .bool]
abbrev LSh : List L := [.int .i64, .int .i64, .list 62 LSl, .int .i64]
abbrev LGn : List L := [.str, .int .i64]
theorem shR_seg {a b : Int} : ∀ {n i : Nat}, i < n → ((shR a b n).drop (i * 4)).take 4 = shX a b
  | 0, i, h => by omega
  | n + 1, 0, h => by
    simp only [shR, Nat.zero_mul, List.drop_zero]
    exact List.take_left' rfl
  | n + 1, i + 1, h => by
    have := shR_seg (a := a) (b := b) (n := n) (i := i) (by omega)
    rw [← this]
    simp only [shR]
    rw [List.drop_append, List.drop_of_length_le (by show 4 ≤ _; omega), List.nil_append]
    congr 2
    show (i + 1) * 4 - 4 = i * 4
    omega
theorem cn_core (n a b : Int) (w : World) : Calls Try.prog 5 #[.int .i64 n, .int .i64 a, .int .i64 b] w fun e w' => ∃ v1 v2 col, e = .returned (.agg #[v1, v2]) ∧ Below w.heap.size w w' ∧ (∀ k, col k ≠ none → w.heap.size ≤ k ∧ k < w'.heap.size) ∧
    ∀ S, repL (regRow w' S col true true) (.list 32 LSh) [(0, 0)] (mCacheNew n a b).1 v1 ∧ repL (regRow w' S col true true) (.list 46 LGn) [(1, 0)] (mCacheNew n a b).2 v2 := by
  have hnil : ∀ (w' : World) (S : Nat → Prop) (col : Nat → Option Col) (e : TypeId) (ls : List L) (p : Col), repL (regRow w' S col true true) (.list e ls) p ([] : List (dens ls)) (.slice none 0 0) := fun w' S col e ls p => by
    simp only [repL]
    exact ⟨[], deepRow.2 (.inl ⟨rfl, none, rfl⟩), by simp, fun i x hx => by simp [gt] at hx⟩
  by_cases h : (1 ≤ n ∧ n ≤ 4) ∧ (1 ≤ a ∧ a ≤ 8) ∧ (0 ≤ b ∧ b ≤ 500)
  · have hm : mCacheNew n a b = (List.replicate n.toNat (a, b, [], 0), []) := by
      unfold mCacheNew mShardSizes mIn
      rw [if_pos]
      simp only [Bool.and_eq_true, decide_eq_true_eq]
      exact h
    obtain ⟨N, rfl⟩ : ∃ N : Nat, n = N := ⟨n.toNat, by omega⟩
    rw [hm, Int.toNat_natCast]
    have hN : 1 ≤ N ∧ N ≤ 4 := by omega
    obtain ⟨o1, ho1⟩ : ∃ o1, o1 = Obj.cells #[.slice none 0 0, .slice none 0 0] 25 := ⟨_, rfl⟩
    obtain ⟨o2, ho2⟩ : ∃ o2, o2 = Obj.cells #[.int .i64 a, .int .i64 b, .slice none 0 0, .int .i64 0] 32 := ⟨_, rfl⟩
    have z1 : (w.alloc o1).heap.size = w.heap.size + 1 := by simp
    have z2 : ((w.alloc o1).alloc o2).heap.size = w.heap.size + 1 + 1 := by simp
    have z3 : (((w.alloc o1).alloc o2).alloc o2).heap.size = w.heap.size + 1 + 1 + 1 := by simp
    have hg : (((w.alloc o1).alloc o2).alloc o2).heap[w.heap.size + 1 + 1]? = some (.cells (shX a b).toArray 32 (0, 0)) := by
      have := heap_alloc_new ((w.alloc o1).alloc o2) o2
      rw [z2] at this
      rw [this, ho2]
      rfl
    obtain ⟨w3, hc, R⟩ := rep_raw a b N hN _ _ hg
    rw [z3] at hc
    have hH : w3.heap[w.heap.size]? = some (.cells #[.slice none 0 0, .slice none 0 0] 25 (0, 0)) := by
      rw [R.old _ (by omega), heap_alloc_old _ _ (by omega), heap_alloc_old _ _ (by omega), heap_alloc_new, ho1]
    have hlt : w.heap.size < w3.heap.size := by have := R.size; omega
    have fz : ∀ o, w3.frozen? ⟨w.heap.size, o, none⟩ = false := fun o => by
      unfold World.frozen?
      simp [hH]
    have hgd := cn_good a b N (w.heap.size + 1 + 1 + 1) w w3 hN h.2 (by rw [← ho1, ← ho2]; exact hc) (by rw [cell_row hH]; rfl) (by rw [cell_row hH]; rfl) (fz 0) (fz 1)
    refine hgd.mono ?_
    rintro e w' ⟨rfl, ho⟩
    have hnew : w'.heap[w.heap.size + 1 + 1 + 1]? = some (.cells (shR a b N).toArray 32 (0, 0)) := by
      rw [ho.heap _ (by omega), ← z3]
      exact R.new
    have hs' : w'.heap.size = w.heap.size + 4 := by rw [ho.size, R.size]; omega
    refine ⟨_, _, fun k => if k = w.heap.size + 1 + 1 + 1 then some [(0, 0)] else none, rfl, ⟨ho.os.trans R.os, ho.tape.trans R.tape, ho.output.trans R.output, by omega, fun k hk => ?_⟩, fun k hk => ?_, fun S => ⟨?_, hnil _ _ _ _ _ _⟩⟩
    · rw [ho.heap k (by omega), R.old k (by omega), heap_alloc_old _ _ (by omega), heap_alloc_old _ _ (by omega), heap_alloc_old _ _ hk]
    · by_cases e : k = w.heap.size + 1 + 1 + 1
      · omega
      · exact absurd (if_neg e) hk
    · have hrl : ∀ z : L.dens LSh, List.length (α := L.dens LSh) (List.replicate N z) = N := fun z => List.length_replicate
      simp only [repL]
      refine ⟨shR a b N, deepRow.2 (.inr ⟨w.heap.size + 1 + 1 + 1, N, (shR a b N).toArray, (0, 0), ?_, if_pos rfl, hnew, ?_, ?_, ?_, ?_, fun _ => rfl, .inl rfl⟩), ?_, fun i x hx => ?_⟩
      · exact congrArg (fun k => Value.slice (some ⟨w.heap.size + 1 + 1 + 1, 0, none⟩) k N) (hrl _).symm
      · exact Nat.le_of_eq (hrl _)
      · simp only [maxLen]; omega
      · rw [List.size_toArray, shR_len]; rfl
      · exact (congrArg (fun k => (shR a b N).take (k * 4)) (hrl _)).trans (List.take_of_length_le (by rw [shR_len]; exact Nat.le_refl _))
      · exact (shR_len N).trans (congrArg (fun k => k * 4) (hrl _).symm)
      · have hx' : (List.replicate N ((a, b, [], 0) : Int × Int × List (dens LSl) × Int))[i]? = some x := hx
        have hi : i < N := by
          have := (List.getElem?_eq_some_iff.1 hx').1
          rwa [List.length_replicate] at this
        have := List.eq_of_mem_replicate (List.mem_of_getElem? hx')
        subst this
        have hseg : ((shR a b N).drop (i * LSh.length)).take LSh.length = shX a b := shR_seg hi
        rw [hseg]
        exact ⟨_, _, rfl, rfl, _, _, rfl, rfl, _, _, rfl, hnil _ _ _ _ _ _, _, rfl, rfl⟩
  · have hm : mCacheNew n a b = ([], []) := by
      unfold mCacheNew mShardSizes mIn
      rw [if_neg]
      simp only [Bool.and_eq_true, decide_eq_true_eq]
      exact h
    rw [hm]
    refine (cn_bad a b n w h).mono ?_
    rintro e w' ⟨rfl, rfl⟩
    exact ⟨_, _, fun _ => none, rfl, ⟨rfl, rfl, rfl, by simp, fun k hk => heap_alloc_old w _ hk⟩, fun k hk => absurd rfl hk, fun S => ⟨hnil _ _ _ _ _ _, hnil _ _ _ _ _ _⟩⟩
theorem cn_ct (w : World) : CtAt Try.prog { f := 5, ps := [.v false .ro [.int .i64], .v false .ro [.int .i64], .v false .ro [.int .i64]], rs := [(true, [.list 32 LSh, .list 46 LGn])], shared := false, pre := fun (x : Int × Int × Int) => pCacheNew x.1 x.2.1 x.2.2, F := fun (x : Int × Int × Int) => mCacheNew x.1 x.2.1 x.2.2, deep := true } w := by
  intro vals x S hS hargs hx
  refine ⟨⟨Try.f5, Try.func5, by kernel_rfl, by kernel_rfl⟩, ?_⟩
  have key : ∀ (x : Int × Int × Int) v0 v1 v2, v0 = .int .i64 x.1 → v1 = .int .i64 x.2.1 → v2 = .int .i64 x.2.2 → vals.toList = [v0, v1, v2] → Calls Try.prog 5 vals w fun e w' => ∃ v1 v2 col, e = .returned (.agg #[v1, v2]) ∧ Below w.heap.size w w' ∧ (∀ k, col k ≠ none → w.heap.size ≤ k ∧ k < w'.heap.size) ∧
      ∀ S, repL (regRow w' S col true true) (.list 32 LSh) [(0, 0)] (mCacheNew x.1 x.2.1 x.2.2).1 v1 ∧ repL (regRow w' S col true true) (.list 46 LGn) [(1, 0)] (mCacheNew x.1 x.2.1 x.2.2).2 v2 := by
    rintro ⟨n, a, b⟩ v0 v1 v2 rfl rfl rfl hv
    have hvals : vals = #[.int .i64 n, .int .i64 a, .int .i64 b] := by
      apply Array.ext'
      rw [hv]
    subst hvals
    exact cn_core n a b w
  obtain ⟨v0, vs0, e0, ⟨cs0, ⟨u0, hu0, hr0⟩, hs0⟩, hargs⟩ := hargs
  obtain ⟨v1, vs1, e1, ⟨cs1, ⟨u1, hu1, hr1⟩, hs1⟩, hargs⟩ := hargs
  obtain ⟨v2, vs2, e2, ⟨cs2, ⟨u2, hu2, hr2⟩, hs2⟩, hargs⟩ := hargs
  have hargs : vs2 = [] := hargs
  have hs0 : cs0 = [v0] := hs0
  have hs1 : cs1 = [v1] := hs1
  have hs2 : cs2 = [v2] := hs2
  rw [hu0] at hs0
  injection hs0 with hs0
  rw [hu1] at hs1
  injection hs1 with hs1
  rw [hu2] at hs2
  injection hs2 with hs2
  rw [hs0] at hr0
  rw [hs1] at hr1
  rw [hs2] at hr2
  refine (key x v0 v1 v2 hr0 hr1 hr2 (by rw [e0, e1, e2, hargs])).mono ?_
  rintro e w' ⟨a1, a2, col, rfl, hb, hcl, hr⟩
  exact ⟨[_], _, col, rfl, hb, .inl rfl, hcl, ⟨_, [], [a1, a2], rfl, ⟨a1, _, rfl, (hr _).1, a2, [], rfl, (hr _).2, rfl⟩, .inr rfl, rfl⟩⟩
end Go.Ev
end

section
/- What the program's functions come to, each by itself: printed by a program of this session's own (EwShow) out of the small machine. -/
set_option linter.unusedVariables false
namespace Go.Ev

def s_laws_FnExactCacheNew (a0 : Int) (a1 : Int) (a2 : Int) (Q : (Bool → Prop)) : Prop :=
 pCacheNew a0 a1 a2 ∧
 pCacheNew a0 a1 a2 ∧
 pEq (mCacheNew a0 a1 a2) (mCacheNew a0 a1 a2) ∧
 (¬ ((eqF (mCacheNew a0 a1 a2) (mCacheNew a0 a1 a2)) = true) →
 (Q false)) ∧
 (¬ (¬ ((eqF (mCacheNew a0 a1 a2) (mCacheNew a0 a1 a2)) = true)) →
 pMarkCache (mCacheNew a0 a1 a2) 1 ∧
 pHeldCache (wMarkCache (mCacheNew a0 a1 a2) 1).1 1 ∧
 ((mHeldCache (wMarkCache (mCacheNew a0 a1 a2) 1).1 1) < 0 →
 (Q false)) ∧
 (¬ ((mHeldCache (wMarkCache (mCacheNew a0 a1 a2) 1).1 1) < 0) →
 ((mHeldCache (wMarkCache (mCacheNew a0 a1 a2) 1).1 1) ≠ (mMarkCache (mCacheNew a0 a1 a2) 1) →
 (Q false)) ∧
 (¬ ((mHeldCache (wMarkCache (mCacheNew a0 a1 a2) 1).1 1) ≠ (mMarkCache (mCacheNew a0 a1 a2) 1)) →
 pCacheNew a0 a1 a2 ∧
 pEq (mCacheNew a0 a1 a2) (mCacheNew a0 a1 a2) ∧
 (¬ ((eqF (mCacheNew a0 a1 a2) (mCacheNew a0 a1 a2)) = true) →
 (Q false)) ∧
 (¬ (¬ ((eqF (mCacheNew a0 a1 a2) (mCacheNew a0 a1 a2)) = true)) →
 pHeldCache (wMarkCache (mCacheNew a0 a1 a2) 1).1 1 ∧
 ((mHeldCache (wMarkCache (mCacheNew a0 a1 a2) 1).1 1) < 0 →
 (Q false)) ∧
 (¬ ((mHeldCache (wMarkCache (mCacheNew a0 a1 a2) 1).1 1) < 0) →
 ((mHeldCache (wMarkCache (mCacheNew a0 a1 a2) 1).1 1) ≠ (mMarkCache (mCacheNew a0 a1 a2) 1) →
 (Q false)) ∧
 (¬ ((mHeldCache (wMarkCache (mCacheNew a0 a1 a2) 1).1 1) ≠ (mMarkCache (mCacheNew a0 a1 a2) 1)) →
 (Q true)))))))

def s_spec_CacheNew (a0 : Int) (a1 : Int) (a2 : Int) (Q : (Cch → Prop)) : Prop :=
 pIn a0 1 4 ∧
 (¬ ((mIn a0 1 4) = true) →
 (Q ([], []))) ∧
 (¬ (¬ ((mIn a0 1 4) = true)) →
 pShardNew a1 a2 ∧
 ((mShardNew a1 a2).1 = 0 →
 (Q ([], []))) ∧
 (¬ ((mShardNew a1 a2).1 = 0) →
 (∀ L0 : ((Int × Cch) → Prop),
 ((
 (∀ y1 : (Int × Cch),
 ((
 (y1.1 < a0 →
 pShardNew a1 a2 ∧
 (y1.2.1.length + [(mShardNew a1 a2)].length) * 48 ≤ 140737488355328 ∧
 (L0 ((IntKind.i64.wrap (y1.1 + 1)), (y1.2.1 ++ [(mShardNew a1 a2)]), y1.2.2))) ∧
 (¬ (y1.1 < a0) →
 (Q y1.2))
 ) →
 (L0 y1)))
 ) →
 (L0 (0, [], []))))))

def s_spec_ShardNew (a0 : Int) (a1 : Int) (Q : (Shd → Prop)) : Prop :=
 pIn a0 1 8 ∧
 (¬ ((mIn a0 1 8) = true) →
 (Q (0, 0, [], 0))) ∧
 (¬ (¬ ((mIn a0 1 8) = true)) →
 pIn a1 0 500 ∧
 (¬ ((mIn a1 0 500) = true) →
 (Q (0, 0, [], 0))) ∧
 (¬ (¬ ((mIn a1 0 500) = true)) →
 (Q (a0, a1, [], 0))))

end Go.Ev
end

section
/- What the program's functions come to, each by itself: printed by a program of this session's own (EwShow) out of the small machine. -/
set_option linter.unusedVariables false
namespace Go.Ev

def s_laws_heldCache (a0 : Cch) (a1 : Int) (Q : (Int → Prop)) : Prop :=
 pHeldShardS a0.1 a1 ∧
 ((mHeldShardS a0.1 a1) < 0 →
 (Q (-1))) ∧
 (¬ ((mHeldShardS a0.1 a1) < 0) →
 pHeldGenRowS a0.2 (mHeldShardS a0.1 a1) ∧
 ((mHeldGenRowS a0.2 (mHeldShardS a0.1 a1)) < 0 →
 (Q (-1))) ∧
 (¬ ((mHeldGenRowS a0.2 (mHeldShardS a0.1 a1)) < 0) →
 (Q (mHeldGenRowS a0.2 (mHeldShardS a0.1 a1)))))

def s_laws_heldGenRowS (a0 : (List Gen)) (a1 : Int) (Q : (Int → Prop)) : Prop :=
 (∀ L0 : ((Int × Int) → Prop),
 ((
 (∀ y1 : (Int × Int),
 ((
 (y1.2 < (a0.length : Int) →
 0 ≤ y1.2 ∧
 y1.2 < (a0.length : Int) ∧
 pMarkText y1.1 ∧
 ((rx a0 y1.2).1 ≠ (mMarkText y1.1) →
 (Q (-1))) ∧
 (¬ ((rx a0 y1.2).1 ≠ (mMarkText y1.1)) →
 0 ≤ y1.2 ∧
 y1.2 < (a0.length : Int) ∧
 ((rx a0 y1.2).2 ≠ (IntKind.i64.wrap (y1.1 + 1)) →
 (Q (-1))) ∧
 (¬ ((rx a0 y1.2).2 ≠ (IntKind.i64.wrap (y1.1 + 1))) →
 (L0 ((IntKind.i64.wrap ((IntKind.i64.wrap (y1.1 + 1)) + 1)), (IntKind.i64.wrap (y1.2 + 1))))))) ∧
 (¬ (y1.2 < (a0.length : Int)) →
 (Q y1.1))
 ) →
 (L0 y1)))
 ) →
 (L0 (a1, 0))))

def s_laws_heldShardS (a0 : (List Shd)) (a1 : Int) (Q : (Int → Prop)) : Prop :=
 (∀ L0 : ((Int × Int) → Prop),
 ((
 (∀ y1 : (Int × Int),
 ((
 (y1.2 < (a0.length : Int) →
 0 ≤ y1.2 ∧
 y1.2 < (a0.length : Int) ∧
 ((rx a0 y1.2).1 ≠ y1.1 →
 (Q (-1))) ∧
 (¬ ((rx a0 y1.2).1 ≠ y1.1) →
 0 ≤ y1.2 ∧
 y1.2 < (a0.length : Int) ∧
 ((rx a0 y1.2).2.1 ≠ (IntKind.i64.wrap (y1.1 + 1)) →
 (Q (-1))) ∧
 (¬ ((rx a0 y1.2).2.1 ≠ (IntKind.i64.wrap (y1.1 + 1))) →
 0 ≤ y1.2 ∧
 y1.2 < (a0.length : Int) ∧
 pHeldSlotS (rx a0 y1.2).2.2.1 (IntKind.i64.wrap ((IntKind.i64.wrap (y1.1 + 1)) + 1)) ∧
 ((mHeldSlotS (rx a0 y1.2).2.2.1 (IntKind.i64.wrap ((IntKind.i64.wrap (y1.1 + 1)) + 1))) < 0 →
 (Q (-1))) ∧
 (¬ ((mHeldSlotS (rx a0 y1.2).2.2.1 (IntKind.i64.wrap ((IntKind.i64.wrap (y1.1 + 1)) + 1))) < 0) →
 0 ≤ y1.2 ∧
 y1.2 < (a0.length : Int) ∧
 ((rx a0 y1.2).2.2.2 ≠ (mHeldSlotS (rx a0 y1.2).2.2.1 (IntKind.i64.wrap ((IntKind.i64.wrap (y1.1 + 1)) + 1))) →
 (Q (-1))) ∧
 (¬ ((rx a0 y1.2).2.2.2 ≠ (mHeldSlotS (rx a0 y1.2).2.2.1 (IntKind.i64.wrap ((IntKind.i64.wrap (y1.1 + 1)) + 1)))) →
 (L0 ((IntKind.i64.wrap ((mHeldSlotS (rx a0 y1.2).2.2.1 (IntKind.i64.wrap ((IntKind.i64.wrap (y1.1 + 1)) + 1))) + 1)), (IntKind.i64.wrap (y1.2 + 1))))))))) ∧
 (¬ (y1.2 < (a0.length : Int)) →
 (Q y1.1))
 ) →
 (L0 y1)))
 ) →
 (L0 (a1, 0))))

def s_laws_heldSlotS (a0 : (List Slt)) (a1 : Int) (Q : (Int → Prop)) : Prop :=
 (∀ L0 : ((Int × Int) → Prop),
 ((
 (∀ y1 : (Int × Int),
 ((
 (y1.2 < (a0.length : Int) →
 0 ≤ y1.2 ∧
 y1.2 < (a0.length : Int) ∧
 pMarkText y1.1 ∧
 ((rx a0 y1.2).1 ≠ (mMarkText y1.1) →
 (Q (-1))) ∧
 (¬ ((rx a0 y1.2).1 ≠ (mMarkText y1.1)) →
 0 ≤ y1.2 ∧
 y1.2 < (a0.length : Int) ∧
 pHeldFieldS (rx a0 y1.2).2.1 (IntKind.i64.wrap (y1.1 + 1)) ∧
 ((mHeldFieldS (rx a0 y1.2).2.1 (IntKind.i64.wrap (y1.1 + 1))) < 0 →
 (Q (-1))) ∧
 (¬ ((mHeldFieldS (rx a0 y1.2).2.1 (IntKind.i64.wrap (y1.1 + 1))) < 0) →
 0 ≤ y1.2 ∧
 y1.2 < (a0.length : Int) ∧
 ((rx a0 y1.2).2.2.1 ≠ (mHeldFieldS (rx a0 y1.2).2.1 (IntKind.i64.wrap (y1.1 + 1))) →
 (Q (-1))) ∧
 (¬ ((rx a0 y1.2).2.2.1 ≠ (mHeldFieldS (rx a0 y1.2).2.1 (IntKind.i64.wrap (y1.1 + 1)))) →
 0 ≤ y1.2 ∧
 y1.2 < (a0.length : Int) ∧
 pHeldFieldS (rx a0 y1.2).2.2.2.1 (IntKind.i64.wrap ((mHeldFieldS (rx a0 y1.2).2.1 (IntKind.i64.wrap (y1.1 + 1))) + 1)) ∧
 ((mHeldFieldS (rx a0 y1.2).2.2.2.1 (IntKind.i64.wrap ((mHeldFieldS (rx a0 y1.2).2.1 (IntKind.i64.wrap (y1.1 + 1))) + 1))) < 0 →
 (Q (-1))) ∧
 (¬ ((mHeldFieldS (rx a0 y1.2).2.2.2.1 (IntKind.i64.wrap ((mHeldFieldS (rx a0 y1.2).2.1 (IntKind.i64.wrap (y1.1 + 1))) + 1))) < 0) →
 0 ≤ y1.2 ∧
 y1.2 < (a0.length : Int) ∧
 pMarkText (mHeldFieldS (rx a0 y1.2).2.2.2.1 (IntKind.i64.wrap ((mHeldFieldS (rx a0 y1.2).2.1 (IntKind.i64.wrap (y1.1 + 1))) + 1))) ∧
 ((rx a0 y1.2).2.2.2.2.1 ≠ (mMarkText (mHeldFieldS (rx a0 y1.2).2.2.2.1 (IntKind.i64.wrap ((mHeldFieldS (rx a0 y1.2).2.1 (IntKind.i64.wrap (y1.1 + 1))) + 1)))) →
 (Q (-1))) ∧
 (¬ ((rx a0 y1.2).2.2.2.2.1 ≠ (mMarkText (mHeldFieldS (rx a0 y1.2).2.2.2.1 (IntKind.i64.wrap ((mHeldFieldS (rx a0 y1.2).2.1 (IntKind.i64.wrap (y1.1 + 1))) + 1))))) →
 0 ≤ y1.2 ∧
 y1.2 < (a0.length : Int) ∧
 ((rx a0 y1.2).2.2.2.2.2.1 ≠ (IntKind.i64.wrap ((mHeldFieldS (rx a0 y1.2).2.2.2.1 (IntKind.i64.wrap ((mHeldFieldS (rx a0 y1.2).2.1 (IntKind.i64.wrap (y1.1 + 1))) + 1))) + 1)) →
 (Q (-1))) ∧
 (¬ ((rx a0 y1.2).2.2.2.2.2.1 ≠ (IntKind.i64.wrap ((mHeldFieldS (rx a0 y1.2).2.2.2.1 (IntKind.i64.wrap ((mHeldFieldS (rx a0 y1.2).2.1 (IntKind.i64.wrap (y1.1 + 1))) + 1))) + 1))) →
 0 ≤ y1.2 ∧
 y1.2 < (a0.length : Int) ∧
 ((rx a0 y1.2).2.2.2.2.2.2.1 ≠ (IntKind.i64.wrap ((IntKind.i64.wrap ((mHeldFieldS (rx a0 y1.2).2.2.2.1 (IntKind.i64.wrap ((mHeldFieldS (rx a0 y1.2).2.1 (IntKind.i64.wrap (y1.1 + 1))) + 1))) + 1)) + 1)) →
 (Q (-1))) ∧
 (¬ ((rx a0 y1.2).2.2.2.2.2.2.1 ≠ (IntKind.i64.wrap ((IntKind.i64.wrap ((mHeldFieldS (rx a0 y1.2).2.2.2.1 (IntKind.i64.wrap ((mHeldFieldS (rx a0 y1.2).2.1 (IntKind.i64.wrap (y1.1 + 1))) + 1))) + 1)) + 1))) →
 0 ≤ y1.2 ∧
 y1.2 < (a0.length : Int) ∧
 (3 : Int) ≠ 0 ∧
 ((rx a0 y1.2).2.2.2.2.2.2.2 ≠ (decide (((IntKind.i64.wrap ((IntKind.i64.wrap ((IntKind.i64.wrap ((mHeldFieldS (rx a0 y1.2).2.2.2.1 (IntKind.i64.wrap ((mHeldFieldS (rx a0 y1.2).2.1 (IntKind.i64.wrap (y1.1 + 1))) + 1))) + 1)) + 1)) + 1)).tmod 3) = 0)) →
 (Q (-1))) ∧
 (¬ ((rx a0 y1.2).2.2.2.2.2.2.2 ≠ (decide (((IntKind.i64.wrap ((IntKind.i64.wrap ((IntKind.i64.wrap ((mHeldFieldS (rx a0 y1.2).2.2.2.1 (IntKind.i64.wrap ((mHeldFieldS (rx a0 y1.2).2.1 (IntKind.i64.wrap (y1.1 + 1))) + 1))) + 1)) + 1)) + 1)).tmod 3) = 0))) →
 (L0 ((IntKind.i64.wrap ((IntKind.i64.wrap ((IntKind.i64.wrap ((IntKind.i64.wrap ((mHeldFieldS (rx a0 y1.2).2.2.2.1 (IntKind.i64.wrap ((mHeldFieldS (rx a0 y1.2).2.1 (IntKind.i64.wrap (y1.1 + 1))) + 1))) + 1)) + 1)) + 1)) + 1)), (IntKind.i64.wrap (y1.2 + 1))))))))))))) ∧
 (¬ (y1.2 < (a0.length : Int)) →
 (Q y1.1))
 ) →
 (L0 y1)))
 ) →
 (L0 (a1, 0))))

def s_laws_markCache (a0 : Cch) (a1 : Int) (Q : (Int → ((Cch × Int) → Prop))) : Prop :=
 pMarkShardS a0.1 a1 ∧
 pMarkGenRowS a0.2 (mMarkShardS a0.1 a1) ∧
 (Q (mMarkGenRowS a0.2 (mMarkShardS a0.1 a1)) (((wMarkShardS a0.1 a1).1, (wMarkGenRowS a0.2 (mMarkShardS a0.1 a1)).1), a1))

def s_laws_markGenRowS (a0 : (List Gen)) (a1 : Int) (Q : (Int → (((List Gen) × Int) → Prop))) : Prop :=
 (∀ L0 : ((Int × (Int × (List Gen))) → Prop),
 ((
 (∀ y1 : (Int × (Int × (List Gen))),
 ((
 (y1.2.1 < (y1.2.2.length : Int) →
 pMarkText y1.1 ∧
 0 ≤ y1.2.1 ∧
 y1.2.1 < (y1.2.2.length : Int) ∧
 0 ≤ y1.2.1 ∧
 y1.2.1 < ((y1.2.2.set y1.2.1.toNat ((mMarkText y1.1), (rx y1.2.2 y1.2.1).2)).length : Int) ∧
 (L0 ((IntKind.i64.wrap ((IntKind.i64.wrap (y1.1 + 1)) + 1)), (IntKind.i64.wrap (y1.2.1 + 1)), ((y1.2.2.set y1.2.1.toNat ((mMarkText y1.1), (rx y1.2.2 y1.2.1).2)).set y1.2.1.toNat ((rx (y1.2.2.set y1.2.1.toNat ((mMarkText y1.1), (rx y1.2.2 y1.2.1).2)) y1.2.1).1, (IntKind.i64.wrap (y1.1 + 1))))))) ∧
 (¬ (y1.2.1 < (y1.2.2.length : Int)) →
 (Q y1.1 (y1.2.2, a1)))
 ) →
 (L0 y1)))
 ) →
 (L0 (a1, 0, a0))))

def s_laws_markShardS (a0 : (List Shd)) (a1 : Int) (Q : (Int → (((List Shd) × Int) → Prop))) : Prop :=
 (∀ L0 : ((Int × (Int × (List Shd))) → Prop),
 ((
 (∀ y1 : (Int × (Int × (List Shd))),
 ((
 (y1.2.1 < (y1.2.2.length : Int) →
 0 ≤ y1.2.1 ∧
 y1.2.1 < (y1.2.2.length : Int) ∧
 (∀ y2 : (List Shd),
 (y2 = (y1.2.2.set y1.2.1.toNat (y1.1, (rx y1.2.2 y1.2.1).2)) →
 0 ≤ y1.2.1 ∧
 y1.2.1 < (y2.length : Int) ∧
 (∀ y3 : (List Shd),
 (y3 = (y2.set y1.2.1.toNat ((rx y2 y1.2.1).1, (IntKind.i64.wrap (y1.1 + 1)), (rx y2 y1.2.1).2.2)) →
 0 ≤ y1.2.1 ∧
 y1.2.1 < (y3.length : Int) ∧
 (∀ y4 : (List Slt),
 (y4 = (rx y3 y1.2.1).2.2.1 →
 (∀ y5 : (List Shd),
 (y5 = (y3.set y1.2.1.toNat ((rx y3 y1.2.1).1, (rx y3 y1.2.1).2.1, [], (rx y3 y1.2.1).2.2.2)) →
 pMarkSlotS y4 (IntKind.i64.wrap ((IntKind.i64.wrap (y1.1 + 1)) + 1)) ∧
 (∀ y6 : (List Shd),
 (y6 = (y5.set y1.2.1.toNat ((rx y5 y1.2.1).1, (rx y5 y1.2.1).2.1, (wMarkSlotS y4 (IntKind.i64.wrap ((IntKind.i64.wrap (y1.1 + 1)) + 1))).1, (rx y5 y1.2.1).2.2.2)) →
 (∀ y7 : (List Slt),
 (y7 = (wMarkSlotS y4 (IntKind.i64.wrap ((IntKind.i64.wrap (y1.1 + 1)) + 1))).1 →
 0 ≤ y1.2.1 ∧
 y1.2.1 < (y6.length : Int) ∧
 (∀ y8 : (List Shd),
 (y8 = (y6.set y1.2.1.toNat ((rx y6 y1.2.1).1, (rx y6 y1.2.1).2.1, (rx y6 y1.2.1).2.2.1, (mMarkSlotS y4 (IntKind.i64.wrap ((IntKind.i64.wrap (y1.1 + 1)) + 1))))) →
 (L0 ((IntKind.i64.wrap ((mMarkSlotS y4 (IntKind.i64.wrap ((IntKind.i64.wrap (y1.1 + 1)) + 1))) + 1)), (IntKind.i64.wrap (y1.2.1 + 1)), y8))))))))))))))))) ∧
 (¬ (y1.2.1 < (y1.2.2.length : Int)) →
 (Q y1.1 (y1.2.2, a1)))
 ) →
 (L0 y1)))
 ) →
 (L0 (a1, 0, a0))))

def s_laws_markSlotS (a0 : (List Slt)) (a1 : Int) (Q : (Int → (((List Slt) × Int) → Prop))) : Prop :=
 (∀ L0 : ((Int × (Int × (List Slt))) → Prop),
 ((
 (∀ y1 : (Int × (Int × (List Slt))),
 ((
 (y1.2.1 < (y1.2.2.length : Int) →
 pMarkText y1.1 ∧
 0 ≤ y1.2.1 ∧
 y1.2.1 < (y1.2.2.length : Int) ∧
 (∀ y2 : (List Slt),
 (y2 = (y1.2.2.set y1.2.1.toNat ((mMarkText y1.1), (rx y1.2.2 y1.2.1).2)) →
 0 ≤ y1.2.1 ∧
 y1.2.1 < (y2.length : Int) ∧
 (∀ y3 : (List Slt),
 (y3 = (y2.set y1.2.1.toNat ((rx y2 y1.2.1).1, [], (rx y2 y1.2.1).2.2)) →
 pMarkFieldS (rx y2 y1.2.1).2.1 (IntKind.i64.wrap (y1.1 + 1)) ∧
 (∀ y4 : (List Slt),
 (y4 = (y3.set y1.2.1.toNat ((rx y3 y1.2.1).1, (wMarkFieldS (rx y2 y1.2.1).2.1 (IntKind.i64.wrap (y1.1 + 1))).1, (rx y3 y1.2.1).2.2)) →
 0 ≤ y1.2.1 ∧
 y1.2.1 < (y4.length : Int) ∧
 (∀ y5 : (List Slt),
 (y5 = (y4.set y1.2.1.toNat ((rx y4 y1.2.1).1, (rx y4 y1.2.1).2.1, (mMarkFieldS (rx y2 y1.2.1).2.1 (IntKind.i64.wrap (y1.1 + 1))), (rx y4 y1.2.1).2.2.2)) →
 0 ≤ y1.2.1 ∧
 y1.2.1 < (y5.length : Int) ∧
 (∀ y6 : (List Slt),
 (y6 = (y5.set y1.2.1.toNat ((rx y5 y1.2.1).1, (rx y5 y1.2.1).2.1, (rx y5 y1.2.1).2.2.1, [], (rx y5 y1.2.1).2.2.2.2)) →
 pMarkFieldS (rx y5 y1.2.1).2.2.2.1 (IntKind.i64.wrap ((mMarkFieldS (rx y2 y1.2.1).2.1 (IntKind.i64.wrap (y1.1 + 1))) + 1)) ∧
 (∀ y7 : (List Slt),
 (y7 = (y6.set y1.2.1.toNat ((rx y6 y1.2.1).1, (rx y6 y1.2.1).2.1, (rx y6 y1.2.1).2.2.1, (wMarkFieldS (rx y5 y1.2.1).2.2.2.1 (IntKind.i64.wrap ((mMarkFieldS (rx y2 y1.2.1).2.1 (IntKind.i64.wrap (y1.1 + 1))) + 1))).1, (rx y6 y1.2.1).2.2.2.2)) →
 pMarkText (mMarkFieldS (rx y5 y1.2.1).2.2.2.1 (IntKind.i64.wrap ((mMarkFieldS (rx y2 y1.2.1).2.1 (IntKind.i64.wrap (y1.1 + 1))) + 1))) ∧
 0 ≤ y1.2.1 ∧
 y1.2.1 < (y7.length : Int) ∧
 (∀ y8 : (List Slt),
 (y8 = (y7.set y1.2.1.toNat ((rx y7 y1.2.1).1, (rx y7 y1.2.1).2.1, (rx y7 y1.2.1).2.2.1, (rx y7 y1.2.1).2.2.2.1, (mMarkText (mMarkFieldS (rx y5 y1.2.1).2.2.2.1 (IntKind.i64.wrap ((mMarkFieldS (rx y2 y1.2.1).2.1 (IntKind.i64.wrap (y1.1 + 1))) + 1)))), (rx y7 y1.2.1).2.2.2.2.2)) →
 0 ≤ y1.2.1 ∧
 y1.2.1 < (y8.length : Int) ∧
 (∀ y9 : (List Slt),
 (y9 = (y8.set y1.2.1.toNat ((rx y8 y1.2.1).1, (rx y8 y1.2.1).2.1, (rx y8 y1.2.1).2.2.1, (rx y8 y1.2.1).2.2.2.1, (rx y8 y1.2.1).2.2.2.2.1, (IntKind.i64.wrap ((mMarkFieldS (rx y5 y1.2.1).2.2.2.1 (IntKind.i64.wrap ((mMarkFieldS (rx y2 y1.2.1).2.1 (IntKind.i64.wrap (y1.1 + 1))) + 1))) + 1)), (rx y8 y1.2.1).2.2.2.2.2.2)) →
 0 ≤ y1.2.1 ∧
 y1.2.1 < (y9.length : Int) ∧
 (∀ y10 : (List Slt),
 (y10 = (y9.set y1.2.1.toNat ((rx y9 y1.2.1).1, (rx y9 y1.2.1).2.1, (rx y9 y1.2.1).2.2.1, (rx y9 y1.2.1).2.2.2.1, (rx y9 y1.2.1).2.2.2.2.1, (rx y9 y1.2.1).2.2.2.2.2.1, (IntKind.i64.wrap ((IntKind.i64.wrap ((mMarkFieldS (rx y5 y1.2.1).2.2.2.1 (IntKind.i64.wrap ((mMarkFieldS (rx y2 y1.2.1).2.1 (IntKind.i64.wrap (y1.1 + 1))) + 1))) + 1)) + 1)), (rx y9 y1.2.1).2.2.2.2.2.2.2)) →
 (3 : Int) ≠ 0 ∧
 0 ≤ y1.2.1 ∧
 y1.2.1 < (y10.length : Int) ∧
 (∀ y11 : (List Slt),
 (y11 = (y10.set y1.2.1.toNat ((rx y10 y1.2.1).1, (rx y10 y1.2.1).2.1, (rx y10 y1.2.1).2.2.1, (rx y10 y1.2.1).2.2.2.1, (rx y10 y1.2.1).2.2.2.2.1, (rx y10 y1.2.1).2.2.2.2.2.1, (rx y10 y1.2.1).2.2.2.2.2.2.1, (decide (((IntKind.i64.wrap ((IntKind.i64.wrap ((IntKind.i64.wrap ((mMarkFieldS (rx y5 y1.2.1).2.2.2.1 (IntKind.i64.wrap ((mMarkFieldS (rx y2 y1.2.1).2.1 (IntKind.i64.wrap (y1.1 + 1))) + 1))) + 1)) + 1)) + 1)).tmod 3) = 0)))) →
 (L0 ((IntKind.i64.wrap ((IntKind.i64.wrap ((IntKind.i64.wrap ((IntKind.i64.wrap ((mMarkFieldS (rx y5 y1.2.1).2.2.2.1 (IntKind.i64.wrap ((mMarkFieldS (rx y2 y1.2.1).2.1 (IntKind.i64.wrap (y1.1 + 1))) + 1))) + 1)) + 1)) + 1)) + 1)), (IntKind.i64.wrap (y1.2.1 + 1)), y11))))))))))))))))))))))) ∧
 (¬ (y1.2.1 < (y1.2.2.length : Int)) →
 (Q y1.1 (y1.2.2, a1)))
 ) →
 (L0 y1)))
 ) →
 (L0 (a1, 0, a0))))

end Go.Ev
end

section
/- What the program's functions come to, each by itself: printed by a program of this session's own (EwShow) out of the small machine. -/
set_option linter.unusedVariables false
namespace Go.Ev

end Go.Ev
end

section
/- What the laws' marks come to, and the law of Picked: printed by a program of this session's own (EwShow) out of the small machine. -/
set_option linter.unusedVariables false
namespace Go.Ev

def s_laws_heldFieldS (a0 : (List Fld)) (a1 : Int) (Q : (Int → Prop)) : Prop :=
 (∀ L0 : ((Int × Int) → Prop),
 ((
 (∀ y1 : (Int × Int),
 ((
 (y1.2 < (a0.length : Int) →
 0 ≤ y1.2 ∧
 y1.2 < (a0.length : Int) ∧
 pMarkText y1.1 ∧
 ((rx a0 y1.2).1 ≠ (mMarkText y1.1) →
 (Q (-1))) ∧
 (¬ ((rx a0 y1.2).1 ≠ (mMarkText y1.1)) →
 0 ≤ y1.2 ∧
 y1.2 < (a0.length : Int) ∧
 pMarkText (IntKind.i64.wrap (y1.1 + 1)) ∧
 ((rx a0 y1.2).2 ≠ (mMarkText (IntKind.i64.wrap (y1.1 + 1))) →
 (Q (-1))) ∧
 (¬ ((rx a0 y1.2).2 ≠ (mMarkText (IntKind.i64.wrap (y1.1 + 1)))) →
 (L0 ((IntKind.i64.wrap ((IntKind.i64.wrap (y1.1 + 1)) + 1)), (IntKind.i64.wrap (y1.2 + 1))))))) ∧
 (¬ (y1.2 < (a0.length : Int)) →
 (Q y1.1))
 ) →
 (L0 y1)))
 ) →
 (L0 (a1, 0))))

def s_laws_markFieldS (a0 : (List Fld)) (a1 : Int) (Q : (Int → (((List Fld) × Int) → Prop))) : Prop :=
 (∀ L0 : ((Int × (Int × (List Fld))) → Prop),
 ((
 (∀ y1 : (Int × (Int × (List Fld))),
 ((
 (y1.2.1 < (y1.2.2.length : Int) →
 pMarkText y1.1 ∧
 0 ≤ y1.2.1 ∧
 y1.2.1 < (y1.2.2.length : Int) ∧
 pMarkText (IntKind.i64.wrap (y1.1 + 1)) ∧
 0 ≤ y1.2.1 ∧
 y1.2.1 < ((y1.2.2.set y1.2.1.toNat ((mMarkText y1.1), (rx y1.2.2 y1.2.1).2)).length : Int) ∧
 (L0 ((IntKind.i64.wrap ((IntKind.i64.wrap (y1.1 + 1)) + 1)), (IntKind.i64.wrap (y1.2.1 + 1)), ((y1.2.2.set y1.2.1.toNat ((mMarkText y1.1), (rx y1.2.2 y1.2.1).2)).set y1.2.1.toNat ((rx (y1.2.2.set y1.2.1.toNat ((mMarkText y1.1), (rx y1.2.2 y1.2.1).2)) y1.2.1).1, (mMarkText (IntKind.i64.wrap (y1.1 + 1)))))))) ∧
 (¬ (y1.2.1 < (y1.2.2.length : Int)) →
 (Q y1.1 (y1.2.2, a1)))
 ) →
 (L0 y1)))
 ) →
 (L0 (a1, 0, a0))))

def s_laws_markText (a0 : Int) (Q : (S → Prop)) : Prop :=
 (a0 ≤ 0 →
 (Q (lit [109, 48]))) ∧
 (¬ (a0 ≤ 0) →
 (∀ L0 : ((Int × S) → Prop),
 ((
 (∀ y1 : (Int × S),
 ((
 (0 < y1.1 →
 (10 : Int) ≠ 0 ∧
 (strOf [(IntKind.u8.wrap (IntKind.i64.wrap (48 + (y1.1.tmod 10))))]).size + y1.2.size ≤ 9223372036854775807 ∧
 (10 : Int) ≠ 0 ∧
 (L0 ((IntKind.i64.wrap (y1.1.tdiv 10)), ((strOf [(IntKind.u8.wrap (IntKind.i64.wrap (48 + (y1.1.tmod 10))))]) ++ y1.2)))) ∧
 (¬ (0 < y1.1) →
 (lit [109]).size + y1.2.size ≤ 9223372036854775807 ∧
 (Q ((lit [109]) ++ y1.2)))
 ) →
 (L0 y1)))
 ) →
 (L0 (a0, (lit []))))))

end Go.Ev
end

section
/- What more of the laws' functions come to: printed by a program of this session's own (EwShow) out of the small machine. -/
set_option linter.unusedVariables false
namespace Go.Ev

end Go.Ev
end

section
/- What the laws' functions come to: printed by a program of this session's own (EwShow) out of the small machine. -/
set_option linter.unusedVariables false
namespace Go.Ev

end Go.Ev
end

section
/- What the program's functions come to, each by itself: printed by a program of this session's own (EwShow) out of the small machine. -/
set_option linter.unusedVariables false
namespace Go.Ev

def s_spec_l1In (a0 : Int) (a1 : Int) (a2 : Int) (Q : (Bool → Prop)) : Prop :=
 (a1 ≤ a0 →
 (Q (decide (a0 ≤ a2)))) ∧
 (¬ (a1 ≤ a0) →
 (Q false))

end Go.Ev
end

section
/- Laws of the plain library: what the functions come to is what they compute. First part: small ones. -/
set_option linter.unusedVariables false
namespace Go.Ev

theorem spec_l1In_ok (a0 a1 a2 : Int) : s_spec_l1In a0 a1 a2 (fun r => r = mIn a0 a1 a2) := by
  unfold s_spec_l1In mIn; grind
end Go.Ev
end

section
/- Laws of the plain library, second part: searches. -/
set_option linter.unusedVariables false
namespace Go.Ev

end Go.Ev
end

section
/- A law's end: from the contract of the law's function to its calls. -/
set_option linter.unusedVariables false
namespace Go.Ev
open Go.RowKit Go.WideShapes
def boolCt (f : FuncId) (ps : List PT) (pre : pts ps → Prop) : Ct := { f, ps, rs := [(false, [.bool])], shared := false, pre, F := fun _ => (true : Bool) }
theorem bool_end {P : Program} {f : FuncId} {ps : List PT} {pre : pts ps → Prop} {W : World} {vals : Array Value} {x : pts ps} (h : CtAt P (boolCt f ps pre) W) (hargs : argsR (now W) W ps x vals.toList) (hpre : pre x) :
    Calls P f vals W fun e w' => e = .returned (.bool true) ∧ Below W.heap.size W w' := by
  obtain ⟨_, hc⟩ := h vals x (now W) (fun b hb => hb) hargs hpre
  refine hc.mono fun e w' ⟨vs, v, col, he, hb, hv, _, hr⟩ => ?_
  simp only [boolCt, resR] at hr
  obtain ⟨u, vs', cs, rfl, ho, hs, rfl⟩ := hr
  simp only [outR, repL] at ho
  obtain ⟨u2, cs', rfl, hb2, rfl⟩ := ho
  have hs := hs.resolve_left fun h => by simp [anyRes] at h
  simp only [slotV, Bool.false_eq_true, if_false] at hs
  have e1 : u2 = u := by simpa using hs
  subst e1
  have hu : u2 = .bool true := hb2
  subst hu
  refine ⟨?_, hb⟩
  rw [he]
  rcases hv with hv | ⟨hv, _⟩
  · have : v = .bool true := by simpa using hv.symm
    rw [this]
  · simp at hv
theorem args_nil {S : Nat → Prop} {W : World} : argsR S W [] () [] := rfl
theorem args_cons {S : Nat → Prop} {W : World} {p : PT} {ps : List PT} {x : p.den} {xs : pts ps} {v : Value} {vs : List Value} (h1 : argR S W p x v) (h2 : argsR S W ps xs vs) : argsR S W (p :: ps) (pmk x xs) (v :: vs) := by
  simp only [argsR]
  exact ⟨v, vs, rfl, by rw [phd_pmk]; exact h1, by rw [ptl_pmk]; exact h2⟩
theorem arg_one {S : Nat → Prop} {W : World} {ts : List L} {x : dens ts} {v : Value} (h : repLs (roRow W S) ts [] 0 0 x [v]) : argR S W (.v false .ro ts) x v := ⟨[v], h, by simp [slotV]⟩
theorem by_like {A B : Prop} (hA : A) (h : A = B) : B := h ▸ hA
end Go.Ev
end

section
/- Laws of the plain library: worlds. -/
set_option linter.unusedVariables false
namespace Go.Ev
end Go.Ev
end

section
/- Laws of the plain library: numerals. -/
set_option linter.unusedVariables false
namespace Go.Ev
def decLeft (n : Int) : List UInt8 := if n = 0 then [] else Lib.decDigits n.natAbs
theorem td10 (n : Int) : (0 ≤ n ∧ n.tdiv 10 = n / 10 ∧ n.tmod 10 = n % 10) ∨ (n < 0 ∧ n.tdiv 10 = -((-n) / 10) ∧ n.tmod 10 = -((-n) % 10)) := by
  rcases Int.le_total 0 n with h | h
  · exact Or.inl ⟨h, Int.tdiv_eq_ediv_of_nonneg h, Int.tmod_eq_emod_of_nonneg h⟩
  · by_cases h0 : n = 0
    · subst h0; exact Or.inl ⟨by omega, rfl, rfl⟩
    · refine Or.inr ⟨by omega, ?_, ?_⟩
      · rw [← Int.tdiv_eq_ediv_of_nonneg (by omega), Int.neg_tdiv, Int.neg_neg]
      · rw [← Int.tmod_eq_emod_of_nonneg (by omega), Int.neg_tmod, Int.neg_neg]
theorem decLeft_step {n : Int} (h : n ≠ 0) : decLeft n = decLeft (n.tdiv 10) ++ [UInt8.ofNat (48 + n.natAbs % 10)] := by
  have e : (n.tdiv 10).natAbs = n.natAbs / 10 := by rw [Int.natAbs_tdiv]; rfl
  have ht := td10 n
  unfold decLeft
  rw [if_neg h]
  by_cases h1 : n.natAbs < 10
  · have : n.tdiv 10 = 0 := by omega
    rw [if_pos this, Lib.decDigits_one h1, Nat.mod_eq_of_lt h1]; rfl
  · have : n.tdiv 10 ≠ 0 := by omega
    rw [if_neg this, e, Lib.decDigits, dif_neg h1]
theorem digit_pos {n : Int} (h0 : in64 n) (h : ¬ n.tmod 10 < 0) : strOf [IntKind.u8.wrap (IntKind.i64.wrap (48 + n.tmod 10))] = ob [UInt8.ofNat (48 + n.natAbs % 10)] := by
  obtain ⟨ha, hb⟩ := h0
  have ht := td10 n
  have e2 : IntKind.i64.wrap (48 + n.tmod 10) = ((48 + n.natAbs % 10 : Nat) : Int) := by rw [wrap64 (by omega) (by omega)]; omega
  have hlt : n.natAbs % 10 < 10 := Nat.mod_lt _ (by decide)
  rw [e2]
  generalize n.natAbs % 10 = k at hlt
  have : ∀ k : Fin 10, strOf [IntKind.u8.wrap ((48 + k.val : Nat) : Int)] = ob [UInt8.ofNat (48 + k.val)] := by decide +kernel
  exact this ⟨k, hlt⟩
end Go.Ev
end

section
/- Library functions: from a call's law to a contract of the small machine. -/
set_option linter.unusedVariables false
namespace Go.Ev
open Go.RowKit
end Go.Ev
end

section
/- Laws of the plain library: the law of TagOf. -/
set_option linter.unusedVariables false
namespace Go.Ev
end Go.Ev
end

section
/- Laws of the plain library: the laws' functions of the doors. -/
set_option linter.unusedVariables false
namespace Go.Ev
end Go.Ev
end

section
/- Laws of the plain library: more of the laws' functions. -/
set_option linter.unusedVariables false
namespace Go.Ev
end Go.Ev
end

section
/- Laws of the plain library, third part: texts out of texts. -/
set_option linter.unusedVariables false
namespace Go.Ev

end Go.Ev
end

section
/- Laws of the plain library, fourth part: parts of texts. -/
set_option linter.unusedVariables false
namespace Go.Ev

end Go.Ev
end

section
/- Laws of the plain library: the laws' marks. -/
set_option linter.unusedVariables false
namespace Go.Ev
theorem laws_markText_ok (a0 : Int) (h : pMarkText a0) : s_laws_markText a0 (fun r => r = mMarkText a0) := by
  obtain ⟨ha, hb⟩ := h
  have hlen := Lib.itoa_length_le a0 ha hb
  refine ⟨fun h0 => by unfold mMarkText; rw [if_pos h0], fun h0 => fun L hL => ?_⟩
  refine loopI hL (fun y => in64 y.1 ∧ 0 ≤ y.1 ∧ decLeft y.1 ++ bs y.2 = Lib.decDigits a0.natAbs) (fun y => y.1.natAbs) (fun y hI ih => ?_) (a0, lit []) ⟨⟨ha, hb⟩, by simp only; omega, by unfold decLeft; rw [if_neg (by simp only; omega), bs_lit]; simp⟩
  obtain ⟨n, s⟩ := y
  obtain ⟨h64, hp, he⟩ := hI
  simp only at h64 hp he ⊢
  have hl : (Lib.decDigits a0.natAbs).length ≤ 21 := by
    unfold Lib.itoa at hlen
    rw [if_neg (by omega), show a0.toNat = a0.natAbs by omega] at hlen
    exact hlen
  have hs : s.size ≤ 21 := by rw [← bs_len]; rw [← he, List.length_append] at hl; omega
  have ht := td10 n
  have d64 : in64 (n.tdiv 10) := by obtain ⟨a, b⟩ := h64; constructor <;> omega
  have wd : IntKind.i64.wrap (n.tdiv 10) = n.tdiv 10 := wrap64 (by have := d64.1; omega) (by have := d64.2; omega)
  have h1 : (ob [UInt8.ofNat (48 + n.natAbs % 10)]).size = 1 := ob_size _
  have h2 : (lit [109]).size = 1 := rfl
  rw [wd]
  refine ⟨fun hne => ?_, fun hle => ?_⟩
  · rw [digit_pos h64 (by omega), h1]
    refine ⟨by decide, by omega, by decide, ih _ ⟨d64, by simp only; omega, ?_⟩ (by simp only; omega)⟩
    simp only
    rw [bs_append, bs_ob, ← List.append_assoc, ← decLeft_step (by omega), he]
  · have h00 : n = 0 := by omega
    subst h00
    rw [h2]
    refine ⟨by omega, ?_⟩
    unfold mMarkText mDec mItoa
    rw [if_neg h0]
    congr 1
    apply bs_inj
    rw [bs_ob]
    unfold Lib.itoa
    rw [if_neg (by omega), show a0.toNat = a0.natAbs by omega, ← he]
    unfold decLeft
    simp
theorem take_set_succ {α : Type} {xs ys : List α} {i : Nat} {f : α} (hx : i < xs.length) (hy : i < ys.length) (h : xs.take i = ys.take i) (hf : ys[i] = f) : (xs.set i f).take (i + 1) = ys.take (i + 1) := by
  rw [List.take_add_one, List.take_add_one, List.getElem?_set_self hx, List.getElem?_eq_getElem hy, hf, ← h]
  congr 1
  apply List.ext_getElem?
  intro j
  rw [List.getElem?_take, List.getElem?_take]
  split
  · rw [List.getElem?_set_ne (by omega)]
  · rfl
theorem laws_markFieldS_ok (a0 : List Fld) (a1 : Int) (h : pMarkFieldS a0 a1) : s_laws_markFieldS a0 a1 (fun r y => r = mMarkFieldS a0 a1 ∧ y = wMarkFieldS a0 a1) := by
  obtain ⟨k0, k1, hn⟩ := h
  intro L hL
  refine loopI hL (fun y => ∃ i : Nat, i ≤ a0.length ∧ y.2.1 = (i : Int) ∧ y.1 = a1 + 2 * i ∧ y.2.2.length = a0.length ∧ y.2.2.take i = (markFld a0 a1).take i) (fun y => a0.length + 1 - y.2.1.toNat) (fun y hI ih => ?_) (a1, 0, a0) ⟨0, by omega, rfl, by simp, rfl, by simp⟩
  obtain ⟨k, i', xs⟩ := y
  obtain ⟨i, hi, hy, hk, hl, ht⟩ := hI
  simp only at hy hk hl ht ⊢
  subst hy hk
  have hm := markFld_length a0 a1
  have w1 : IntKind.i64.wrap (a1 + 2 * (i : Int) + 1) = a1 + 2 * i + 1 := wrap64 (by omega) (by omega)
  have w2 : IntKind.i64.wrap (a1 + 2 * (i : Int) + 1 + 1) = a1 + 2 * ((i + 1 : Nat) : Int) := by rw [wrap64 (by omega) (by omega)]; omega
  have w3 : IntKind.i64.wrap ((i : Int) + 1) = ((i + 1 : Nat) : Int) := wrapS (by omega)
  rw [w1, w2, w3]
  refine ⟨fun hlt => ?_, fun hge => ?_⟩
  · have hlt' : i < xs.length := by omega
    refine ⟨⟨by omega, by omega⟩, by omega, hlt, ⟨by omega, by omega⟩, by omega, by rw [List.length_set]; exact hlt, ?_⟩
    refine ih _ ⟨i + 1, by omega, rfl, rfl, by simp [hl], ?_⟩ (by simp only [Int.toNat_natCast]; omega)
    simp only [Int.toNat_natCast]
    have e1 : (rx (xs.set i (mMarkText (a1 + 2 * (i : Int)), (rx xs (i : Int)).2)) (i : Int)).1 = mMarkText (a1 + 2 * (i : Int)) := by
      rw [rx_get _ (by rw [List.length_set]; exact hlt'), List.getElem_set_self]
    rw [e1, List.set_set]
    exact take_set_succ hlt' (by omega) ht (markFld_get a0 a1 i (by omega))
  · have hie : i = a0.length := by omega
    subst hie
    refine ⟨rfl, ?_⟩
    unfold wMarkFieldS
    rw [List.take_of_length_le (by omega), List.take_of_length_le (by omega)] at ht
    rw [ht]
theorem laws_heldFieldS_ok (a0 : List Fld) (a1 : Int) (h : pHeldFieldS a0 a1) : s_laws_heldFieldS a0 a1 (fun r => r = mHeldFieldS a0 a1) := by
  obtain ⟨k0, k1, hn⟩ := h
  intro L hL
  refine loopI hL (fun y => ∃ i : Nat, i ≤ a0.length ∧ y.2 = (i : Int) ∧ y.1 = a1 + 2 * i ∧ heldFld (a0.drop i) y.1 = heldFld a0 a1) (fun y => a0.length + 1 - y.2.toNat) (fun y hI ih => ?_) (a1, 0) ⟨0, by omega, rfl, by simp, by simp⟩
  obtain ⟨k, i'⟩ := y
  obtain ⟨i, hi, hy, hk, he⟩ := hI
  simp only at hy hk he ⊢
  subst hy hk
  have w1 : IntKind.i64.wrap (a1 + 2 * (i : Int) + 1) = a1 + 2 * i + 1 := wrap64 (by omega) (by omega)
  have w2 : IntKind.i64.wrap (a1 + 2 * (i : Int) + 1 + 1) = a1 + 2 * ((i + 1 : Nat) : Int) := by rw [wrap64 (by omega) (by omega)]; omega
  have w3 : IntKind.i64.wrap ((i : Int) + 1) = ((i + 1 : Nat) : Int) := wrapS (by omega)
  rw [w1, w2, w3]
  refine ⟨fun hlt => ?_, fun hge => ?_⟩
  · have hlt' : i < a0.length := by omega
    rw [List.drop_eq_getElem_cons hlt'] at he
    rw [rx_get _ hlt']
    rw [heldFld] at he
    refine ⟨by omega, hlt, ⟨by omega, by omega⟩, fun hne => ?_, fun hne => ⟨by omega, hlt, ⟨by omega, by omega⟩, fun hne2 => ?_, fun hne2 => ?_⟩⟩
    · rw [if_pos hne] at he; exact he
    · rw [if_neg hne, if_pos hne2] at he; exact he
    · rw [if_neg hne, if_neg hne2] at he
      refine ih _ ⟨i + 1, by omega, rfl, rfl, ?_⟩ (by simp only [Int.toNat_natCast]; omega)
      simp only
      rw [← he]
      congr 1
      omega
  · have hie : i = a0.length := by omega
    subst hie
    rw [List.drop_of_length_le (Nat.le_refl _)] at he
    exact he
end Go.Ev
end

section
/- Library functions: strings.Join, strings.Trim, strings.Cut, strings.IndexByte: contracts of the small machine. -/
set_option linter.unusedVariables false
namespace Go.Ev
open Go.RowKit
end Go.Ev
end

section
/- Library functions: strconv.Atoi, strings.TrimLeft, strings.Split: contracts of the small machine; what their variables hold. -/
set_option linter.unusedVariables false
namespace Go.Ev
open Go.RowKit
end Go.Ev
end

section
/- The plain library: what the functions of dates compute. -/
set_option linter.unusedVariables false
namespace Go.Ev
end Go.Ev
end

section
/- What the functions of dates come to: printed by a program of this session's own (EwShow) out of the small machine. -/
set_option linter.unusedVariables false
namespace Go.Ev

end Go.Ev
end

section
/- Laws of the plain library: the calendar. -/
set_option linter.unusedVariables false
namespace Go.Ev
end Go.Ev
end

section
/- Laws of the plain library: days, texts of dates. -/
set_option linter.unusedVariables false
namespace Go.Ev
end Go.Ev
end

section
/- Laws of the plain library: texts of moments. -/
set_option linter.unusedVariables false
namespace Go.Ev
end Go.Ev
end

section
/- Laws of the plain library: marks of texts in a row, FieldSet, WithAge, VaryNames. -/
set_option linter.unusedVariables false
namespace Go.Ev
end Go.Ev
end
