/- A small verified machine for the operations of the given program, and plain laws of what its functions compute; without conditions of its own. Part 2. -/
import Derived.Test.Ytdglpinlegnjkaacn0
import Derived.Great.BuildSlice
set_option linter.unusedVariables false
set_option linter.unusedSimpArgs false
section
/- The small machine is true to the model, fifteenth part: literals of slices and structs. -/
set_option linter.unusedVariables false
namespace Go.Ev
open Go.RowKit

section
variable {P : Program} {E : Env} {F : Fm} {G : Gh} {σ σ' : St} {w : World} {a : Act} {o : Oper} {tmps : Array Value}

theorem asVal_sure {t : L} {l : Leaf} {x : t.den} (h : l.asVal σ t = some x) : noJunk [l] = true := by
  cases l with
  | junk => unfold Leaf.asVal Leaf.as at h; simp at h
  | _ => simp [noJunk]
theorem noJunk_both {l : Leaf} {ls : List Leaf} (h : noJunk [l] = true) (h' : noJunk ls = true) : noJunk (l :: ls) = true := by
  cases l <;> simp_all [noJunk]
theorem absorb_sure : ∀ {ts : List L} {ls : List Leaf} {σ σ' : St} {x : dens ts}, absorb σ ts ls = some (x, σ') → noJunk ls = true ∧ ls.length = ts.length
  | [], [], _, _, _, _ => ⟨rfl, rfl⟩
  | [], _ :: _, _, _, _, h => by simp [absorb] at h
  | _ :: _, [], _, _, _, h => by simp [absorb] at h
  | t :: ts, l :: ls, σ, σ', x, h => by
    simp only [absorb, Option.bind_eq_some_iff, Option.map_eq_some_iff] at h
    obtain ⟨σ1, hf, a, ha, ⟨r, σ2⟩, hr, hx⟩ := h
    obtain ⟨h1, h2⟩ := absorb_sure hr
    exact ⟨noJunk_both (asVal_sure ha) h1, by simp [h2]⟩

theorem absorbRows_ok {ls : List L} (hne : ls ≠ []) : ∀ {ss : List Slot} {vs : List Value} {xs : List (dens ls)} {G : Gh} {σ σ' : St}, Rel F G σ tmps w → slotsR (stab F G.c w) G σ w ss vs → absorbRows σ ls (mp Slot.leafs ss) = some (xs, σ') →
    ∃ G', Rel F G' σ' tmps w ∧ Keep F G σ w G' σ' w ∧ vs.length = xs.length ∧ (∀ v ∈ vs, v.cells.size = ls.length ∧ ∀ u ∈ v.cells.toList, u.oneCell' = true) ∧
      ∀ i x, xs[i]? = some x → repLs (roRow w (stab F G'.c w)) ls [] i 0 x (((vs.flatMap fun v => v.cells.toList).drop (i * ls.length)).take ls.length)
  | [], vs, xs, G, σ, σ', h, hs, ha => by
    simp only [slotsR] at hs
    subst hs
    simp only [mp, absorbRows, Option.some.injEq] at ha
    obtain ⟨rfl, rfl⟩ := Prod.mk.inj ha
    exact ⟨G, h, Keep.refl _ _ _ _, rfl, by simp, fun i x hx => by simp at hx⟩
  | s :: ss, vs, xs, G, σ, σ', h, hs, ha => by
    simp only [slotsR] at hs
    obtain ⟨v, vs', rfl, h1, h2⟩ := hs
    simp only [mp, absorbRows, Option.bind_eq_some_iff, Option.map_eq_some_iff] at ha
    obtain ⟨⟨x, σ1⟩, hab, ⟨xs', σ2⟩, hrest, hx⟩ := ha
    simp only [Prod.mk.injEq] at hx
    obtain ⟨rfl, rfl⟩ := hx
    obtain ⟨hj, hl⟩ := absorb_sure hab
    have hsn : s.leafs ≠ [] := fun e => by
      rw [e] at hl
      exact hne (List.eq_nil_of_length_eq_zero hl.symm)
    obtain ⟨c1, c2⟩ := slot_cells h1 hj hsn
    obtain ⟨G1, hR1, k1, r1⟩ := absorb_ok (i := 0) (o := 0) h c1 hab
    obtain ⟨G2, hR2, k2, r2, r3, r4⟩ := absorbRows_ok hne hR1 (slotsR_keep k1 h2) hrest
    have hvl : v.cells.toList.length = ls.length := by rw [leafsR_length c1, hl]
    refine ⟨G2, hR2, k1.trans k2, by simp [r2], fun u hu => ?_, fun i y hy => ?_⟩
    · rcases List.mem_cons.1 hu with rfl | hu
      · exact ⟨by simpa using hvl, c2⟩
      · exact r3 u hu
    · rw [List.flatMap_cons]
      cases i with
      | zero =>
        have : x = y := by simpa using hy
        subst this
        rw [Nat.zero_mul, List.drop_zero, List.take_append_of_le_length (by omega), List.take_of_length_le (by omega)]
        exact ros_path (repLs_map (fun _ _ _ _ _ _ _ => ro_keep k2) r1)
      | succ i =>
        have := r4 i y (by simpa using hy)
        have e : List.drop ((i + 1) * ls.length) (v.cells.toList ++ vs'.flatMap fun v => v.cells.toList) = List.drop (i * ls.length) (vs'.flatMap fun v => v.cells.toList) := by
          rw [Nat.succ_mul, List.drop_append, List.drop_of_length_le (by omega), List.nil_append]
          congr 1
          omega
        rw [e]
        exact ros_path this

theorem mp_map {α β : Type} (f : α → β) : ∀ l : List α, mp f l = l.map f
  | [] => rfl
  | a :: l => by simp [mp, mp_map f l]
theorem mp_mp {α β γ : Type} (f : α → β) (g : β → γ) (l : List α) : mp g (mp f l) = mp (fun a => g (f a)) l := by simp [mp_map]
theorem ops_ok (h : Rel F G σ a.tmps w) : ∀ (ps : List (Nat × Operand)), slotsR (stab F G.c w) G σ w (mp (fun p => σ.op p.2) ps) (ps.map fun p => a.eval p.2)
  | [] => by simp [mp, slotsR]
  | p :: ps => by
    simp only [mp, List.map_cons, slotsR]
    exact ⟨_, _, rfl, op_ok h p.2, ops_ok h ps⟩
theorem inOrder_zip (f : Operand → Value) : ∀ {ps : List (Nat × Operand)} {k m : Nat}, inOrder k m ps = true → (ps.map fun p => (p.1, f p.2)) = (((ps.map fun p => f p.2).zipIdx k).map fun x => (x.2, x.1)) ∧ k + ps.length = m
  | [], k, m, h => by
    simp only [inOrder] at h
    exact ⟨rfl, by simp [beq_nat h]⟩
  | p :: ps, k, m, h => by
    simp only [inOrder, Bool.and_eq_true] at h
    obtain ⟨h1, h2⟩ := inOrder_zip f h.2
    refine ⟨?_, by simp only [List.length_cons]; omega⟩
    simp only [List.map_cons, List.zipIdx_cons, h1, beq_nat h.1]

theorem buildSlice_ok (hE : EnvOk P E) (h : Rel F G σ a.tmps w) {t : TypeId} {n : Nat} {parts : Array (Nat × Operand)} (ho : o.op = .buildSlice t n parts) {id : Nat} {ps : List Prop} (hs : stepOp E σ id o.dst o.type (.buildSlice t n parts) = some (ps, σ')) : OpOk P o a w (Next F σ' a o.dst) := by
  simp only [stepOp] at hs
  obtain ⟨i, hi, hs⟩ := Option.bind_eq_some_iff.1 hs
  split at hs
  · next e ls b hk =>
    obtain ⟨hc, hs⟩ := bif_some hs
    simp only [Bool.and_eq_true] at hc
    obtain ⟨⟨xs, σ1⟩, hab, hs⟩ := Option.bind_eq_some_iff.1 hs
    obtain ⟨σ2, hnew, hs⟩ := Option.map_eq_some_iff.1 hs
    obtain ⟨rfl, rfl⟩ := Prod.mk.inj hs
    obtain ⟨hu, _, hb, hne, ie, z, hie, hsz, hby, hz, hzb⟩ := ti_sl (hE.ti hi) hk
    have hlp : 0 < ls.length := List.length_pos_iff.2 hne
    have hzl : z.cells.size = ls.length := by
      have := repLs_length (zeroB_ok (S := fun _ => True) (w := w) (p := []) (i := 0) (o := 0) hzb)
      simpa using this
    have hab' : absorbRows σ ls (mp Slot.leafs (mp (fun p => σ.op p.2) parts.toList)) = some (xs, σ1) := by
      rw [mp_mp]; exact hab
    obtain ⟨G1, hR1, k1, hlen, hcells, hel⟩ := absorbRows_ok hne h (ops_ok h parts.toList) hab'
    obtain ⟨hzip, hlen2⟩ := inOrder_zip a.eval hc.1
    have hle : n * ls.length ≤ 16777216 := Nat.le_of_ble_eq_true hc.2
    have hxn : xs.length = n := by rw [← hlen, List.length_map]; omega
    have hparts : (parts.map fun (p : Nat × Operand) => (p.1, a.eval p.2)).toList = (((parts.toList.map fun p => a.eval p.2).zipIdx 0).map fun x => (x.2, x.1)) := by
      rw [Array.toList_map]; exact hzip
    by_cases hn : n = 0
    · subst hn
      have hx0 : xs = [] := List.eq_nil_of_length_eq_zero hxn
      subst hx0
      have hp0 : parts.toList = [] := List.eq_nil_of_length_eq_zero (by omega)
      have hp0' : parts = #[] := by cases parts; simp_all
      subst hp0'
      obtain ⟨G', hR, k2, hl⟩ := hR1.row (v := .slice (some ⟨w.heap.size, 0, none⟩) 0 0) (w' := w.alloc (.cells #[] e)) hnew rfl rfl rfl (by simp) (fun b hb => .inl (heap_alloc_old w _ b hb)) (.inl ⟨rfl, _, rfl⟩)
      refine opOk_value (w' := w.alloc (.cells #[] e)) (v := .slice (some ⟨w.heap.size, 0, none⟩) 0 0) ?_ ⟨G', by rw [put_tmps]; exact hR.setSlot (Like.refl _) (by simp only [slotR]; exact hl)⟩
      simp [execOp, ho, Instr.buildSlice, run_underlying hu, sizeOf, typeInfo, hie, Instr.fill, newRow, show Array.range 0 = #[] from rfl]
    · have hrun := run_buildSlice (P := P) w t e n (parts.map fun (p : Nat × Operand) => (p.1, a.eval p.2)) (((parts.toList.map fun p => a.eval p.2).flatMap fun v => v.cells.toList).toArray) ie z hu hie hz (by rw [hsz]; omega)
        (by rw [hsz]; have := Nat.mul_pos (Nat.pos_of_ne_zero hn) hlp; omega) (by
          rw [hparts, hsz]
          refine Great.fill_whole hlp _ _ (fun v hv => (hcells v hv).1) ?_
          rw [List.length_map]
          simp [← hlen2])
      have hflat : ∀ (vs : List Value), (∀ v ∈ vs, v.cells.size = ls.length ∧ ∀ u ∈ v.cells.toList, u.oneCell' = true) → (vs.flatMap fun v => v.cells.toList).length = vs.length * ls.length := by
        intro vs hvs
        induction vs with
        | nil => simp
        | cons v vs ih =>
          rw [List.flatMap_cons, List.length_append, ih fun u hu => hvs u (List.mem_cons_of_mem _ hu), Array.length_toList, (hvs v List.mem_cons_self).1, List.length_cons, Nat.succ_mul]
          omega
      have hsize : ((parts.toList.map fun p => a.eval p.2).flatMap fun v => v.cells.toList).length = xs.length * ls.length := by
        rw [hflat _ hcells, hlen]
      have hmax : xs.length ≤ maxLen := by
        have := Nat.le_mul_of_pos_right n hlp
        simp only [maxLen]
        omega
      obtain ⟨G', hR, k2, hl⟩ := hR1.row (v := .slice (some ⟨w.heap.size, 0, none⟩) n n) (w' := w.alloc (.cells ((parts.toList.map fun p => a.eval p.2).flatMap fun v => v.cells.toList).toArray e)) hnew rfl rfl rfl (by simp) (fun b hb => .inl (heap_alloc_old w _ b hb))
        (.inr ⟨w.heap.size, n, _, (0, 0), by rw [hxn], heap_alloc_new w _, .inl (Nat.le_refl _), Nat.le_of_eq hxn, (by rw [← hxn]; exact hmax), by rw [List.size_toArray, hsize, hxn], fun _ => rfl, .inl rfl, fun i x hx => hel i x hx⟩)
      refine opOk_value (w' := w.alloc (.cells ((parts.toList.map fun p => a.eval p.2).flatMap fun v => v.cells.toList).toArray e)) (v := .slice (some ⟨w.heap.size, 0, none⟩) n n) ?_ ⟨G', by rw [put_tmps]; exact hR.setSlot (Like.refl _) (by simp only [slotR]; exact hl)⟩
      simp [execOp, ho, hrun]
  · cases hs

theorem fill_set (off : Nat) : ∀ (l : List Value) (s : Nat) (cs : Array Value), ((l.zipIdx s).foldl (fun cs (x : Value × Nat) => cs.setIfInBounds (off + x.2) x.1) cs).toList = setAll cs.toList (off + s) l
  | [], s, cs => rfl
  | c :: l, s, cs => by
    simp only [List.zipIdx_cons, List.foldl_cons, setAll, fill_set off l (s + 1)]
    rw [Array.toList_setIfInBounds]
    rfl
theorem fill_ok {qs : List (Nat × List L)} {place : Nat → Option (Nat × Nat)} (hq : ∀ i q, nth? qs i = some q → place i = some (q.1, q.2.length)) :
    ∀ {ps : List (Nat × Operand)} {zl ls : List Leaf} {cur : Array Value}, (∀ p ∈ ps, slotR (stab F G.c w) G σ w (σ.op p.2) (a.eval p.2)) → leafsR (stab F G.c w) G σ w zl cur.toList → fillLeafs qs zl (mp (fun p => (p.1, (σ.op p.2).leafs)) ps) = some ls →
      ∃ cells, Instr.fill place cur (ps.map fun p => (p.1, a.eval p.2)) = some cells ∧ leafsR (stab F G.c w) G σ w ls cells.toList
  | [], zl, ls, cur, _, hz, hf => by
    simp only [mp, fillLeafs, Option.some.injEq] at hf
    subst hf
    exact ⟨cur, rfl, hz⟩
  | p :: ps, zl, ls, cur, hp, hz, hf => by
    simp only [mp, fillLeafs, Option.bind_eq_some_iff] at hf
    obtain ⟨q, hnq, c, hex, c', hsure, z', hov, hf⟩ := hf
    obtain ⟨rfl, hlen⟩ := exact_eq hex
    obtain ⟨rfl, hj, hne⟩ := sure_eq hsure
    obtain ⟨c1, c2⟩ := slot_cells (hp p List.mem_cons_self) hj hne
    obtain ⟨h1, h2⟩ := leafsR_set hz c1 hov
    have hvl : (a.eval p.2).cells.size = q.2.length := by
      have := leafsR_length c1
      rw [Array.length_toList] at this
      omega
    have hset := fill_set q.1 (a.eval p.2).cells.toList 0 cur
    rw [Nat.add_zero] at hset
    obtain ⟨cells, hfill, hR⟩ := fill_ok hq (ps := ps) (fun p' hp' => hp p' (List.mem_cons_of_mem _ hp')) (by rw [hset]; exact h1) hf
    refine ⟨cells, ?_, hR⟩
    simp only [List.map_cons, Instr.fill, hq _ _ hnq, hvl]
    have : ¬ (cur.size < q.1 + q.2.length) := by
      have e1 : cur.toList.length = cur.size := Array.length_toList
      have e2 : (a.eval p.2).cells.toList.length = (a.eval p.2).cells.size := Array.length_toList
      omega
    rw [if_neg (by simp; omega)]
    rw [← hfill]
    congr 1
    rw [← Array.foldl_toList, Array.toList_zipIdx]

theorem nth?_none_of {α : Type} : ∀ {l : List α} {i : Nat}, nth? l i = none → l.length ≤ i
  | [], _, _ => Nat.zero_le _
  | _ :: l, 0, h => by simp [nth?] at h
  | _ :: l, n + 1, h => by
    have := nth?_none_of (l := l) (i := n) (by simpa [nth?] using h)
    simp only [List.length_cons]
    omega
theorem nth?_get {α : Type} : ∀ {l : List α} {i : Nat} {q : α}, nth? l i = some q → l[i]? = some q
  | [], _, _, h => by simp [nth?] at h
  | _ :: _, 0, _, h => by simpa [nth?] using h
  | _ :: l, i + 1, _, h => by simpa using nth?_get (l := l) (by simpa [nth?] using h)
theorem places_ok : ∀ {fs : List Field} {qs : List (Nat × List L)}, fieldsB P fs qs = true → fs.mapM (fun f => (P.info? f.type).map fun i => (f.offset, i.size)) = some (qs.map fun q => (q.1, q.2.length))
  | [], [], _ => rfl
  | [], _ :: _, h => by simp [fieldsB] at h
  | _ :: _, [], h => by simp [fieldsB] at h
  | f :: fs, q :: qs, h => by
    obtain ⟨f', fi, h1, h2, h3, h4, _⟩ := fieldsB_ok (n := 0) h rfl
    have : f = f' := by simpa using h1
    subst this
    simp only [fieldsB, Bool.and_eq_true] at h
    simp [List.mapM_cons, h3, places_ok h.2, h2, h4]

theorem build_ok (hE : EnvOk P E) (h : Rel F G σ a.tmps w) {t : TypeId} {parts : Array (Nat × Operand)} (ho : o.op = .build t parts) {id : Nat} {ps : List Prop} (hs : stepOp E σ id o.dst o.type (.build t parts) = some (ps, σ')) : OpOk P o a w (Next F σ' a o.dst) := by
  simp only [stepOp] at hs
  obtain ⟨i, hi, hs⟩ := Option.bind_eq_some_iff.1 hs
  split at hs
  · next fs hk =>
    obtain ⟨ls, hf, hs⟩ := Option.bind_eq_some_iff.1 hs
    obtain ⟨ls', hsure, hs⟩ := Option.map_eq_some_iff.1 hs
    obtain ⟨rfl, rfl⟩ := Prod.mk.inj hs
    obtain ⟨rfl, hj, hne⟩ := sure_eq hsure
    have ht := hE.ti hi
    obtain ⟨fields, hu, hfb⟩ := ti_st ht hk
    unfold tiB at ht
    simp only [Bool.and_eq_true] at ht
    obtain ⟨it, z, h1, h2, h3, h4⟩ := infoB_ok ht.1
    obtain ⟨cells, hfill, hR⟩ := fill_ok (a := a) (place := ((fs.map fun q => (q.1, q.2.length)).toArray[·]?)) (qs := fs) (cur := z.cells) (fun i q hq => by
      have := nth?_get hq
      simp [this]) (fun p _ => op_ok h p.2) (zeros_ok h4) hf
    have hbuilt : P.built t (parts.toList.map fun p => (p.1, a.eval p.2)) = some cells := by
      unfold Program.built
      rw [h1, hu]
      simp only [h3, places_ok hfb]
      exact hfill
    have hrun := run_build w t (parts.map fun (p : Nat × Operand) => (p.1, a.eval p.2)) cells (by rw [Array.toList_map]; exact hbuilt)
    refine opOk_same h (v := .agg cells) ?_ ?_
    · simp [execOp, ho, hrun]
    · simp only [slotR]
      exact ⟨cells.toList, by simp, hR, leafs_one hR hj⟩
  · cases hs
end
end Go.Ev
end

section
/- The small machine is true to the model, sixteenth part: calls under contracts. -/
set_option linter.unusedVariables false
namespace Go.Ev
open Go.RowKit

def slotV (agg : Bool) (cs : List Value) (v : Value) : Prop := if agg then v = .agg cs.toArray else cs = [v]
def ptrR (S : Nat → Prop) (w : World) (ts : List L) (x : dens ts) (v : Value) : Prop :=
  ∃ (a : Addr) (cs : List Value), v = .pointer (some a) ∧ S a.block ∧ (∀ j u, cs[j]? = some u → w.cell? (a.add j) = some u) ∧ repLs (roRow w S) ts [] 0 0 x cs
def capsR (S : Nat → Prop) (w : World) : (cs : List (List L)) → caps cs → List Value → Prop
  | [], _, vs => vs = []
  | t :: ts, x, vs => ∃ v vs', vs = v :: vs' ∧ ptrR S w t (chd x) v ∧ capsR S w ts (ctl x) vs'
def argR (S : Nat → Prop) (w : World) : (p : PT) → p.den → Value → Prop
  | .v agg _ ts, x, v => ∃ cs, repLs (roRow w S) ts [] 0 0 x cs ∧ slotV agg cs v
  | .p _ ts, x, v => ptrR S w ts x v
  | .c f cs, x, v => ∃ cvs, v = .func (.func f) #[] cvs.toArray ∧ capsR S w cs x cvs
def argsR (S : Nat → Prop) (w : World) : (ps : List PT) → pts ps → List Value → Prop
  | [], _, vs => vs = []
  | p :: ps, x, vs => ∃ v vs', vs = v :: vs' ∧ argR S w p (phd x) v ∧ argsR S w ps (ptl x) vs'

def outR (S : Nat → Prop) (col : Nat → Option Col) (w : World) (sh dp : Bool) : (j : Nat) → (ts : List L) → dens ts → List Value → Prop
  | _, [], _, cs => cs = []
  | j, .list e ls :: ts, x, cs => ∃ v cs', cs = v :: cs' ∧ (if sh = true then repL (roRow w S) (.list e ls) [] (hd x) v else repL (regRow w S col true dp) (.list e ls) [(j, 0)] (hd x) v) ∧ outR S col w sh dp (j + 1) ts (tl x) cs'
  | j, .int k :: ts, x, cs => ∃ v cs', cs = v :: cs' ∧ repL (roRow w S) (.int k) [] (hd x) v ∧ outR S col w sh dp j ts (tl x) cs'
  | j, .bool :: ts, x, cs => ∃ v cs', cs = v :: cs' ∧ repL (roRow w S) .bool [] (hd x) v ∧ outR S col w sh dp j ts (tl x) cs'
  | j, .str :: ts, x, cs => ∃ v cs', cs = v :: cs' ∧ repL (roRow w S) .str [] (hd x) v ∧ outR S col w sh dp j ts (tl x) cs'
def resR (S : Nat → Prop) (col : Nat → Option Col) (w : World) (sh dp : Bool) : (rs : List (Bool × List L)) → caps (snds rs) → Nat → List Value → Prop
  | [], _, _, vs => vs = []
  | a :: rs, x, j, vs => ∃ v vs' cs, vs = v :: vs' ∧ outR S col w sh dp j a.2 (chd x) cs ∧ (anyRes a = true ∨ slotV a.1 cs v) ∧ resR S col w sh dp rs (ctl x) (j + 16) vs'
def retV (vs : List Value) (v : Value) : Prop := vs = [v] ∨ (vs.length ≠ 1 ∧ v = .tuple vs.toArray)

def CtAt (P : Program) (c : Ct) (w : World) : Prop := ∀ (vals : Array Value) (x : pts c.ps) (S : Nat → Prop), (∀ b, S b → b < w.heap.size) → argsR S w c.ps x vals.toList → c.pre x →
  (∃ fn, P.funcs[c.f]? = some fn ∧ (fn.name == "runtime.NumGoroutine") = false ∧ fn.body.isNone = false) ∧
  Calls P c.f vals w fun e w' => ∃ vs v col, e = .returned v ∧ Below w.heap.size w w' ∧ retV vs v ∧ (∀ b, col b ≠ none → w.heap.size ≤ b ∧ b < w'.heap.size) ∧
    resR (fun b => S b ∨ (w.heap.size ≤ b ∧ b < w'.heap.size ∧ col b = none)) col w' c.shared c.deep c.rs (c.F x) 0 vs
def argMR (S : Nat → Prop) (col : Nat → Option Col) (w : World) (dp : Bool) (j : Nat) : (p : PT) → p.den → Value → Prop
  | .v agg .io ts, x, v => ∃ cs, outR S col w false dp j ts x cs ∧ slotV agg cs v
  | p, x, v => argR S w p x v
def argsMR (S : Nat → Prop) (col : Nat → Option Col) (w : World) (dp : Bool) : (ps : List PT) → pts ps → Nat → List Value → Prop
  | [], _, _, vs => vs = []
  | p :: ps, x, j, vs => ∃ v vs', vs = v :: vs' ∧ argMR S col w dp j p (phd x) v ∧ argsMR S col w dp ps (ptl x) (j + 16) vs'
def backR (col : Nat → Option Col) (w : World) (dp : Bool) (j : Nat) : (p : PT) → p.den → Value → Prop
  | .v agg .io ts, x, v => ∃ cs, outR (fun _ => True) col w false dp j ts x cs ∧ slotV agg cs v
  | _, _, _ => True
def backsR (col : Nat → Option Col) (w : World) (dp : Bool) : (ps : List PT) → pts ps → Nat → List Value → Prop
  | [], _, _, _ => True
  | p :: ps, x, j, vs => ∃ v vs', vs = v :: vs' ∧ backR col w dp j p (phd x) v ∧ backsR col w dp ps (ptl x) (j + 16) vs'
def CtM0At (P : Program) (c : CtM) (n : Nat) (w : World) : Prop := n ≤ w.heap.size → ∀ (vals : Array Value) (x : pts c.ps) (S : Nat → Prop) (col : Nat → Option Col), (∀ b, S b → b < w.heap.size ∧ col b = none) → (∀ b, col b ≠ none → n ≤ b ∧ b < w.heap.size) →
  argsMR S col w c.deep c.ps x 0 vals.toList → c.pre x →
  (∃ fn, P.funcs[c.f]? = some fn ∧ (fn.name == "runtime.NumGoroutine") = false ∧ fn.body.isNone = false) ∧
  Calls P c.f vals w fun e w' => ∃ vs v col', e = .returned v ∧ Below n w w' ∧ (∀ b, b < w.heap.size → col b = none → w'.heap[b]? = w.heap[b]?) ∧ retV vs v ∧
    (∀ b, col' b ≠ none → (w.heap.size ≤ b ∨ col b ≠ none) ∧ b < w'.heap.size) ∧
    resR (fun _ => False) (fun _ => none) w' false false c.rs (c.F x) 0 vs ∧ backsR col' w' c.deep c.ps (c.W x) 0 vals.toList

def argQR (S : Nat → Prop) (col : Nat → Option Col) (w : World) (dp : Bool) (j : Nat) (p : PT) (x : p.den) (v : Value) : Prop := match p, x with
  | .v agg .mv ts, x => ∃ cs, outR S col w false dp j ts x cs ∧ slotV agg cs v
  | .p true ts, x => ∃ g cur t, v = .pointer (some ⟨g, 0, none⟩) ∧ w.heap[g]? = some (.cells cur t (0, 0)) ∧ col g = some [(j, 1)] ∧ outR S col w false dp j ts x cur.toList
  | p, x => argR S w p x v
def argsQR (S : Nat → Prop) (col : Nat → Option Col) (w : World) (dp : Bool) : (ps : List PT) → pts ps → Nat → List Value → Prop
  | [], _, _, vs => vs = []
  | p :: ps, x, j, vs => ∃ v vs', vs = v :: vs' ∧ argQR S col w dp j p (phd x) v ∧ argsQR S col w dp ps (ptl x) (j + 16) vs'
def backQR (col : Nat → Option Col) (w : World) (dp : Bool) (p : PT) (x : p.den) (v : Value) : Prop := match p, x with
  | .p true ts, x => ∃ g cur t, v = .pointer (some ⟨g, 0, none⟩) ∧ w.heap[g]? = some (.cells cur t (0, 0)) ∧ col g = none ∧ outR (fun _ => True) col w false dp 128 ts x cur.toList
  | _, _ => True
def backsQR (col : Nat → Option Col) (w : World) (dp : Bool) : (ps : List PT) → pts ps → List Value → Prop
  | [], _, _ => True
  | p :: ps, x, vs => ∃ v vs', vs = v :: vs' ∧ backQR col w dp p (phd x) v ∧ backsQR col w dp ps (ptl x) vs'
def CtQAt (P : Program) (c : CtM) (n : Nat) (w : World) : Prop := n ≤ w.heap.size → ∀ (vals : Array Value) (x : pts c.ps) (S : Nat → Prop) (col : Nat → Option Col), (∀ b, S b → b < w.heap.size ∧ col b = none) → (∀ b, col b ≠ none → n ≤ b ∧ b < w.heap.size) →
  argsQR S col w c.deep c.ps x 0 vals.toList → c.pre x →
  (∃ fn, P.funcs[c.f]? = some fn ∧ (fn.name == "runtime.NumGoroutine") = false ∧ fn.body.isNone = false) ∧
  Calls P c.f vals w fun e w' => ∃ vs v col', e = .returned v ∧ Below n w w' ∧ (∀ b, b < w.heap.size → col b = none → w'.heap[b]? = w.heap[b]?) ∧ retV vs v ∧
    (∀ b, col' b ≠ none → (w.heap.size ≤ b ∨ col b ≠ none) ∧ b < w'.heap.size) ∧
    resR (fun _ => True) col' w' false c.deep c.rs (c.F x) 0 vs ∧ backsQR col' w' c.deep c.ps (c.W x) vals.toList
def CtMAt (P : Program) (c : CtM) (n : Nat) (w : World) : Prop := if c.q = true then CtQAt P c n w else CtM0At P c n w
theorem CtMAt.plain {P : Program} {c : CtM} {n : Nat} {w : World} (h : CtMAt P c n w) (hq : c.q = false) : CtM0At P c n w := by
  unfold CtMAt at h
  rwa [hq, if_neg (by simp)] at h
theorem CtMAt.take {P : Program} {c : CtM} {n : Nat} {w : World} (h : CtMAt P c n w) (hq : c.q = true) : CtQAt P c n w := by
  unfold CtMAt at h
  rwa [hq, if_pos rfl] at h
theorem CtMAt.ofPlain {P : Program} {c : CtM} {n : Nat} {w : World} (h : CtM0At P c n w) (hq : c.q = false) : CtMAt P c n w := by
  unfold CtMAt
  rwa [hq, if_neg (by simp)]
def EnvCts (P : Program) (E : Env) (w0 : World) (n : Nat) : Prop := (∀ c ∈ E.cts, ∀ w, Below n w0 w → CtAt P c w) ∧ ∀ c ∈ E.ms, ∀ w, Below n w0 w → CtMAt P c n w

section
variable {P : Program} {E : Env} {F : Fm} {G : Gh} {σ σ' : St} {w : World} {a : Act} {o : Oper} {tmps : Array Value}

def SB (st : Bool) (F : Fm) (G : Gh) (w : World) (b : Nat) : Prop := if st = true then stab F G.c w b else now w b
theorem SB_lt {st : Bool} (h : Rel F G σ tmps w) {b : Nat} (hb : SB st F G w b) : b < w.heap.size := by
  unfold SB at hb
  split at hb
  · exact stab_lt h hb
  · exact hb
theorem asB_ok {st : Bool} (h : Rel F G σ tmps w) {t : L} {l : Leaf} {x : t.den} {v : Value} (hl : leafR (stab F G.c w) G σ w l v) (ha : asB st σ l t = some x) : repL (roRow w (SB st F G w)) t [] x v := by
  cases st with
  | true => exact repL_mono (fun _ _ _ _ _ _ hh => ro_mono (fun b hb => ⟨by simpa [SB] using hb, rfl⟩) hh) (as_stab h hl ha)
  | false => exact repL_mono (fun _ _ _ _ _ _ hh => ro_mono (fun b hb => ⟨by simpa [SB] using hb, rfl⟩) hh) (as_now h hl ha)
structure Reads (st : Bool) (F : Fm) (G : Gh) (σ : St) (w : World) (T : Nat → Prop) : Prop where
  rd : ∀ {t : L} {l : Leaf} {x : t.den} {v : Value}, leafR (stab F G.c w) G σ w l v → asB st σ l t = some x → repL (roRow w T) t [] x v
  sb : ∀ b, stab F G.c w b → T b
  bx : st = false → ∀ b c (ts : List L) (x : dens ts), look σ.boxes b = some c → asAllB st σ ts c = some x → T (G.bb b)
theorem Reads.SB {st : Bool} (h : Rel F G σ tmps w) : Reads st F G σ w (SB st F G w) where
  rd hl ha := asB_ok h hl ha
  sb b hb := by
    unfold Ev.SB
    split
    · exact hb
    · exact stab_lt h hb
  bx hs b c _ _ hc _ := by
    subst hs
    obtain ⟨t, cur, _, b2, _⟩ := h.boxes b c hc
    simpa [Ev.SB, now] using (h.col _ (by rw [b2]; simp)).2
theorem asAllB_ok {st : Bool} {T : Nat → Prop} (hT : Reads st F G σ w T) {i o : Nat} : ∀ {ts : List L} {ls : List Leaf} {x : dens ts} {vs : List Value}, leafsR (stab F G.c w) G σ w ls vs → asAllB st σ ts ls = some x → repLs (roRow w T) ts [] i o x vs
  | [], [], x, vs, hl, _ => by simpa [leafsR, repLs] using hl
  | [], _ :: _, x, vs, hl, ha => by simp [asAllB] at ha
  | _ :: _, [], x, vs, hl, ha => by simp [asAllB] at ha
  | t :: ts, l :: ls, x, vs, hl, ha => by
    simp only [leafsR] at hl
    obtain ⟨v, vs', rfl, h1, h2⟩ := hl
    simp only [asAllB, Option.bind_eq_some_iff, Option.map_eq_some_iff] at ha
    obtain ⟨a, ha, r, hr, rfl⟩ := ha
    refine repLs_cons.2 ⟨v, vs', rfl, ?_, ?_⟩
    · rw [hd_mk]; exact ro_path (hT.rd h1 ha)
    · rw [tl_mk]; exact asAllB_ok hT h2 hr
theorem addr_zero (a : Addr) : a.add 0 = a := by unfold Addr.add; simp
theorem ro_T {st : Bool} {T : Nat → Prop} (hT : Reads st F G σ w T) {p : Col} {e : TypeId} {sz n : Nat} {v : Value} {cs : List Value} (hr : roRow w (stab F G.c w) p e sz n v cs) : roRow w T p e sz n v cs :=
  ro_mono (fun b hb => ⟨hT.sb b hb, rfl⟩) hr
theorem ptrAs_ok {st : Bool} {T : Nat → Prop} (h : Rel F G σ tmps w) (hT : Reads st F G σ w T) {ts : List L} {l : Leaf} {x : dens ts} {v : Value} (hl : leafR (stab F G.c w) G σ w l v) (ha : ptrAs st σ ts l = some x) : ptrR T w ts x v := by
  unfold ptrAs at ha
  split at ha
  · next b =>
    cases st with
    | true => cases ha
    | false =>
      obtain ⟨c, hc, ha⟩ := Option.bind_eq_some_iff.1 ha
      simp only [leafR] at hl
      obtain ⟨t, cur, b1, b2, b3, b4⟩ := h.boxes b c hc
      exact ⟨⟨G.bb b, 0, none⟩, cur.toList, hl.2, hT.bx rfl b c _ _ hc ha, fun j u hu => by rw [addr_add, cell_row b1]; simpa using hu, asAllB_ok (i := 0) (o := 0) hT b3 ha⟩
  · next ls y =>
    split at ha
    · next hb =>
      injection ha with ha
      subst ha
      simp only [leafR] at hl
      obtain ⟨ad, cs, hv, hs, hc, hr⟩ := hl
      rw [addr_zero] at hv
      refine ⟨ad, cs, hv, hT.sb _ hs, hc, ?_⟩
      have e := L.beqs_eq _ _ hb
      subst e
      exact repLs_map (fun _ _ _ _ _ _ _ => ro_T hT) hr
    · cases ha
  · cases ha
theorem chd_cmk {t : List L} {ts : List (List L)} (a : dens t) (r : caps ts) : chd (cmk a r) = a := by cases ts <;> rfl
theorem ctl_cmk {t : List L} {ts : List (List L)} (a : dens t) (r : caps ts) : ctl (cmk a r) = r := by cases ts <;> rfl
theorem phd_pmk {t : PT} {ts : List PT} (a : t.den) (r : pts ts) : phd (pmk a r) = a := by cases ts <;> rfl
theorem ptl_pmk {t : PT} {ts : List PT} (a : t.den) (r : pts ts) : ptl (pmk a r) = r := by cases ts <;> rfl
theorem capsAs_ok {st : Bool} {T : Nat → Prop} (h : Rel F G σ tmps w) (hT : Reads st F G σ w T) : ∀ {cs : List (List L)} {ls : List Leaf} {x : caps cs} {vs : List Value}, leafsR (stab F G.c w) G σ w ls vs → capsAs st σ cs ls = some x → capsR T w cs x vs
  | [], [], x, vs, hl, _ => by simpa [leafsR, capsR] using hl
  | [], _ :: _, x, vs, hl, ha => by simp [capsAs] at ha
  | _ :: _, [], x, vs, hl, ha => by simp [capsAs] at ha
  | t :: ts, l :: ls, x, vs, hl, ha => by
    simp only [leafsR] at hl
    obtain ⟨v, vs', rfl, h1, h2⟩ := hl
    simp only [capsAs, Option.bind_eq_some_iff, Option.map_eq_some_iff] at ha
    obtain ⟨a, ha, r, hr, rfl⟩ := ha
    simp only [capsR]
    exact ⟨v, vs', rfl, by rw [chd_cmk]; exact ptrAs_ok h hT h1 ha, by rw [ctl_cmk]; exact capsAs_ok h hT h2 hr⟩
theorem argAs_ok {st : Bool} {T : Nat → Prop} (h : Rel F G σ tmps w) (hT : Reads st F G σ w T) {p : PT} {s : Slot} {x : p.den} {v : Value} (hs : slotR (stab F G.c w) G σ w s v) (ha : argAs st σ p s = some x) : argR T w p x v := by
  cases p with
  | v agg m ts =>
    cases agg with
    | false =>
      cases s with
      | cell l =>
        simp only [slotR] at hs
        exact ⟨[v], asAllB_ok (i := 0) (o := 0) hT (by simp only [leafsR]; exact ⟨v, [], rfl, hs, rfl⟩) (show asAllB st σ ts [l] = some x from ha), by simp [slotV]⟩
      | agg ls => exact nomatch (show none = some x from ha)
      | tup ss => exact nomatch (show none = some x from ha)
    | true =>
      cases s with
      | cell l => exact nomatch (show none = some x from ha)
      | agg ls =>
        simp only [slotR] at hs
        obtain ⟨cs, rfl, h1, h2⟩ := hs
        exact ⟨cs, asAllB_ok (i := 0) (o := 0) hT h1 (show asAllB st σ ts ls = some x from ha), by simp [slotV]⟩
      | tup ss => exact nomatch (show none = some x from ha)
  | p io ts =>
    cases s with
    | cell l =>
      simp only [slotR] at hs
      exact ptrAs_ok h hT hs (show ptrAs st σ ts l = some x from ha)
    | agg ls => exact nomatch (show none = some x from ha)
    | tup ss => exact nomatch (show none = some x from ha)
  | c f cs =>
    cases s with
    | cell l =>
      cases l with
      | clo f' ls =>
        obtain ⟨hf, ha2⟩ := bif_some (show (bif Nat.beq f f' then capsAs st σ cs ls else none) = some x from ha)
        have e := beq_nat hf
        subst e
        simp only [slotR, leafR] at hs
        obtain ⟨cvs, rfl, hc⟩ := hs
        exact ⟨cvs, rfl, capsAs_ok h hT hc ha2⟩
      | _ => exact nomatch (show none = some x from ha)
    | agg ls => exact nomatch (show none = some x from ha)
    | tup ss => exact nomatch (show none = some x from ha)
theorem argsAs_ok {st : Bool} {T : Nat → Prop} (h : Rel F G σ tmps w) (hT : Reads st F G σ w T) : ∀ {ps : List PT} {ss : List Slot} {x : pts ps} {vs : List Value}, slotsR (stab F G.c w) G σ w ss vs → argsAs st σ ps ss = some x → argsR T w ps x vs
  | [], [], x, vs, hl, _ => by simpa [slotsR, argsR] using hl
  | [], _ :: _, x, vs, hl, ha => by simp [argsAs] at ha
  | _ :: _, [], x, vs, hl, ha => by simp [argsAs] at ha
  | p :: ps, s :: ss, x, vs, hl, ha => by
    simp only [slotsR] at hl
    obtain ⟨v, vs', rfl, h1, h2⟩ := hl
    simp only [argsAs, Option.bind_eq_some_iff, Option.map_eq_some_iff] at ha
    obtain ⟨a, ha, r, hr, rfl⟩ := ha
    simp only [argsR]
    exact ⟨v, vs', rfl, by rw [phd_pmk]; exact argAs_ok h hT h1 ha, by rw [ptl_pmk]; exact argsAs_ok h hT h2 hr⟩

theorem frzAll_ok : ∀ {ls : List Leaf} {G : Gh} {σ σ' : St}, Rel F G σ tmps w → frzAll σ ls = some σ' → ∃ G', Rel F G' σ' tmps w ∧ Keep F G σ w G' σ' w
  | [], G, σ, σ', h, hf => by
    simp only [frzAll, Option.some.injEq] at hf
    subst hf
    exact ⟨G, h, Keep.refl _ _ _ _⟩
  | l :: ls, G, σ, σ', h, hf => by
    cases l with
    | reg r =>
      simp only [frzAll] at hf
      split at hf
      · next g hg =>
        obtain ⟨hsh, hf⟩ := bif_split hf
        obtain ⟨G1, hR1, k1⟩ := h.frz hg hsh
        obtain ⟨G2, hR2, k2⟩ := frzAll_ok hR1 hf
        exact ⟨G2, hR2, k1.trans k2⟩
      · cases hf
    | _ => first
      | exact frzAll_ok (ls := ls) h (by simpa only [frzAll] using hf)
      | (simp [frzAll] at hf)
theorem frzSlots_ok : ∀ {ss : List Slot} {G : Gh} {σ σ' : St}, Rel F G σ tmps w → frzSlots σ ss = some σ' → ∃ G', Rel F G' σ' tmps w ∧ Keep F G σ w G' σ' w
  | [], G, σ, σ', h, hf => by
    simp only [frzSlots, Option.some.injEq] at hf
    subst hf
    exact ⟨G, h, Keep.refl _ _ _ _⟩
  | s :: ss, G, σ, σ', h, hf => by
    have two : ∀ {ls : List Leaf}, ((frzAll σ ls).bind fun σ' => frzSlots σ' ss) = some σ' → ∃ G', Rel F G' σ' tmps w ∧ Keep F G σ w G' σ' w := fun hh => by
      obtain ⟨σ1, h1, h2⟩ := Option.bind_eq_some_iff.1 hh
      obtain ⟨G1, hR1, k1⟩ := frzAll_ok h h1
      obtain ⟨G2, hR2, k2⟩ := frzSlots_ok hR1 h2
      exact ⟨G2, hR2, k1.trans k2⟩
    cases s with
    | agg ls => exact two hf
    | tup ss' => simp [frzSlots] at hf
    | cell l =>
      cases l with
      | box b o => simp [frzSlots] at hf
      | clo f cs => exact frzSlots_ok (ss := ss) h (by simpa only [frzSlots] using hf)
      | ro ls x o => exact frzSlots_ok (ss := ss) h (by simpa only [frzSlots] using hf)
      | _ => exact two hf
end
end Go.Ev
end

section
/- The small machine is true to the model, seventeenth part: what a call hands back. -/
set_option linter.unusedVariables false
namespace Go.Ev
open Go.RowKit

section
variable {P : Program} {E : Env} {F : Fm} {G : Gh} {σ σ' : St} {w w' : World} {a : Act} {o : Oper} {tmps : Array Value}

mutual
theorem repL_flat {R R' : Rw} : ∀ {t : L} {p p' : Col} {x : t.den} {v : Value}, flatL t = true → repL R t p x v → repL R' t p' x v
  | .int _, _, _, _, _, _, h => by simp only [repL] at h ⊢; exact h
  | .bool, _, _, _, _, _, h => by simp only [repL] at h ⊢; exact h
  | .str, _, _, _, _, _, h => by simp only [repL] at h ⊢; exact h
  | .list _ _, _, _, _, _, hf, h => by simp [flatL] at hf
end
theorem allB_cons {α : Type} {f : α → Bool} {a : α} {l : List α} (h : allB f (a :: l) = true) : f a = true ∧ allB f l = true := by simpa [allB] using h
theorem repLs_flat {R R' : Rw} : ∀ {ls : List L} {p p' : Col} {i i' o o' : Nat} {x : dens ls} {cs : List Value}, flat ls = true → repLs R ls p i o x cs → repLs R' ls p' i' o' x cs
  | [], _, _, _, _, _, _, _, _, _, h => by simpa [repLs] using h
  | t :: ts, _, _, _, _, _, _, _, _, hf, h => by
    obtain ⟨h1, h2⟩ := allB_cons hf
    obtain ⟨v, cs', rfl, r1, r2⟩ := repLs_cons.1 h
    exact repLs_cons.2 ⟨v, cs', rfl, repL_flat h1 r1, repLs_flat h2 r2⟩
theorem repList_flat {R R' : Rw} {e : TypeId} {ls : List L} {p p' : Col} {xs : List (dens ls)} {v : Value} (hf : flat ls = true) (hR : ∀ sz n v cs, R p e sz n v cs → R' p' e sz n v cs) (h : repL R (.list e ls) p xs v) : repL R' (.list e ls) p' xs v := by
  simp only [repL] at h ⊢
  obtain ⟨cs, h1, hl, h2⟩ := h
  exact ⟨cs, hR _ _ _ _ h1, hl, fun i x hx => repLs_flat hf (h2 i x hx)⟩

theorem Rel.claim {app deep : Bool} (h : Rel F G σ tmps w) {id : Nat} {e : TypeId} {ls : List L} {xs : List (dens ls)} (hn : newReg σ id e ls xs app deep = some σ') {v : Value} (hv : repL (regRow w (stab F G.c w) G.c app deep) (.list e ls) [(id, 0)] xs v) :
    Rel F { G with rv := upd G.rv id v } σ' tmps w ∧ Keep F G σ w { G with rv := upd G.rv id v } σ' w ∧ leafR (stab F G.c w) { G with rv := upd G.rv id v } σ' w (.reg id) v := by
  unfold newReg at hn
  cases hl : look σ.regs id with
  | some _ => rw [hl] at hn; cases hn
  | none =>
    rw [hl] at hn
    injection hn with hn
    subst hn
    have hone : v.oneCell' = true := by
      refine repL_one (fun p e sz n v cs hh => ?_) hv
      unfold regRow at hh
      split at hh
      · exact ownRow_one _ _ _ _ _ _ hh
      · exact roRow_one _ _ _ _ _ _ hh
    have k : Keep F G σ w { G with rv := upd G.rv id v } (σ.setReg id (some { e, ls, xs, app := app, frz := false, deep := deep })) w := {
      below := BelowO.refl _ _
      st := fun b hb => ⟨hb, rfl⟩
      bx := fun b hb => ⟨hb, rfl⟩
      rg := fun r hr => by
        have hne : id ≠ r := fun e => by subst e; rw [hl] at hr; cases hr
        refine ⟨by rw [setReg_look]; exact isSome_if hr, upd_ne _ _ (Ne.symm hne), fun g' hg' => ⟨g', ?_, rfl, rfl⟩⟩
        rwa [setReg_reg?, if_neg hne] at hg' }
    refine ⟨h.next k h.col (fun b c hc => .inl ⟨hc, rfl, rfl⟩) (fun r g hr => ?_) (fun i => .inl ⟨rfl, rfl⟩) h.nslots, k, ?_⟩
    · rw [setReg_reg?] at hr
      by_cases e : id = r
      · subst e
        rw [if_pos rfl] at hr
        injection hr with hr
        subst hr
        refine .inr ⟨holesIn_nil rfl, ?_⟩
        rw [regR_whole (by rfl)]
        simp only [Bool.false_eq_true, if_false, upd_same]
        exact hv
      · rw [if_neg e] at hr
        exact .inl ⟨hr, .inr fun b p hb _ => ⟨hb, rfl⟩⟩
    · simp only [leafR, upd_same]
      exact ⟨by rw [setReg_look]; simp, trivial, hone⟩

theorem Rel.after (h : Rel F G σ tmps w) (hb : Below w.heap.size w w') {cn : Nat → Option Col} (hc : ∀ b, cn b ≠ none → w.heap.size ≤ b ∧ b < w'.heap.size) :
    Rel F { G with c := fun b => if b < w.heap.size then G.c b else cn b } σ tmps w' ∧ Keep F G σ w { G with c := fun b => if b < w.heap.size then G.c b else cn b } σ w' := by
  have hst : ∀ b, stab F G.c w b → stab F (fun b => if b < w.heap.size then G.c b else cn b) w' b := fun b hs => by
    have hlt := stab_lt h hs
    rcases hs with hs | hs
    · exact .inl hs
    · exact .inr ⟨hs.1, Nat.lt_of_lt_of_le hlt hb.size, by simp only; rw [if_pos hlt]; exact hs.2.2⟩
  have k : Keep F G σ w { G with c := fun b => if b < w.heap.size then G.c b else cn b } σ w' := {
    below := .of hb (Nat.le_trans h.hS.n0 h.below.size) h.below.size
    st := fun b hs => ⟨hst b hs, hb.block b (stab_lt h hs)⟩
    bx := fun b hb => ⟨hb, rfl⟩
    rg := fun r hr => ⟨hr, rfl, fun g' hg' => ⟨g', hg', rfl, rfl⟩⟩ }
  refine ⟨h.next k (fun b hb2 => ?_) (fun b c hc2 => ?_) (fun r g hr => .inl ⟨hr, .inr fun b p hb2 _ => ?_⟩) (fun i => .inl ⟨rfl, rfl⟩) h.nslots, k⟩
  · simp only at hb2
    split at hb2
    · next hlt =>
      have := h.col b hb2
      exact ⟨this.1, Nat.lt_of_lt_of_le this.2 hb.size⟩
    · have := hc b hb2
      exact ⟨.inl (Nat.le_trans h.below.size this.1), this.2⟩
  · obtain ⟨t', cur', b1, b2, _⟩ := h.boxes b c hc2
    have hlt := col_lt h b2
    exact .inl ⟨hc2, by simp only; rw [if_pos hlt], hb.block _ hlt⟩
  · have hlt := col_lt h hb2
    exact ⟨by simp only; rw [if_pos hlt]; exact hb2, hb.block _ hlt⟩

theorem fresh_ok {S : Nat → Prop} {col : Nat → Option Col} {sh dp : Bool} {id : Nat} : ∀ {ts : List L} {x : dens ts} {j : Nat} {cs : List Value} {G : Gh} {σ σ' : St} {ls : List Leaf}, Rel F G σ tmps w →
    (∀ b l j, col b = some (l ++ [(j, 0)]) → G.c b = some (l ++ [(id + j, 0)])) → ((∀ b, S b → stab F G.c w b) ∨ (sh = false ∧ (flatRes ts = true ∨ dp = true))) → outR S col w sh dp j ts x cs → freshLeafs sh dp id ts x j σ = some (ls, σ') →
    ∃ G', Rel F G' σ' tmps w ∧ Keep F G σ w G' σ' w ∧ G'.c = G.c ∧ leafsR (stab F G'.c w) G' σ' w ls cs
  | [], x, j, cs, G, σ, σ', ls, h, hc, hS, ho, hf => by
    simp only [outR] at ho
    simp only [freshLeafs, Option.some.injEq] at hf
    obtain ⟨rfl, rfl⟩ := Prod.mk.inj hf
    exact ⟨G, h, Keep.refl _ _ _ _, rfl, by simpa [leafsR] using ho⟩
  | .list e els :: ts, x, j, cs, G, σ, σ', ls, h, hc, hS, ho, hf => by
    simp only [outR] at ho
    obtain ⟨v, cs', rfl, h1, h2⟩ := ho
    cases sh with
    | true =>
      simp only [freshLeafs, cond_true, Option.map_eq_some_iff] at hf
      obtain ⟨⟨ls', σ1⟩, hf, hx⟩ := hf
      obtain ⟨rfl, rfl⟩ := Prod.mk.inj hx
      obtain ⟨G', hR, k, e1, hl⟩ := fresh_ok h hc (hS.imp (fun h => h) fun h => by simp at h) h2 hf
      refine ⟨G', hR, k, e1, ?_⟩
      simp only [leafsR]
      refine ⟨v, cs', rfl, leafR_keep k ?_, hl⟩
      simp only [leafR]
      simp only [if_true] at h1
      refine repL_mono (fun _ _ _ _ _ _ hh => ro_mono (fun b hb => ⟨?_, rfl⟩) hh) h1
      rcases hS with hS | hS
      · exact hS b hb
      · simp at hS
    | false =>
      simp only [freshLeafs, cond_false, Option.bind_eq_some_iff, Option.map_eq_some_iff] at hf
      obtain ⟨σ1, hn, ⟨ls', σ2⟩, hf, hx⟩ := hf
      obtain ⟨rfl, rfl⟩ := Prod.mk.inj hx
      simp only [Bool.false_eq_true, if_false] at h1
      have h1' : repL (regRow w (stab F G.c w) G.c true (dp && !flat els)) (.list e els) [(id + j, 0)] (hd x) v := by
        have hown : ∀ l e sz n v cs, ownRow w col true (l ++ [(j, 0)]) e sz n v cs → ownRow w G.c true (l ++ [(id + j, 0)]) e sz n v cs := fun l e sz n v cs => own_mono (fun g hg => ⟨hc g l j hg, rfl⟩) (fun h => h)
        cases hfl : flat els with
        | true =>
          refine repList_flat hfl (fun sz n v cs hh => ?_) h1
          unfold regRow at hh ⊢
          rw [if_pos (by simp)] at hh ⊢
          exact hown [] _ _ _ _ _ hh
        | false =>
          refine repL_map (fun l e sz n v cs hh => ?_) h1
          unfold regRow at hh ⊢
          cases dp with
          | true =>
            rw [if_pos (by simp)] at hh ⊢
            exact hown l _ _ _ _ _ hh
          | false =>
            cases l with
            | nil =>
              rw [if_pos (by simp)] at hh ⊢
              exact hown [] _ _ _ _ _ hh
            | cons a l =>
              rw [if_neg (by simp)] at hh ⊢
              rcases hS with hS | ⟨_, hS | hS⟩
              · exact ro_mono (fun b hb => ⟨hS b hb, rfl⟩) hh
              · simp only [flatRes, Bool.and_eq_true] at hS
                rw [hS.1] at hfl
                cases hfl
              · cases hS
      obtain ⟨hR1, k1, hl1⟩ := h.claim hn h1'
      obtain ⟨G', hR, k, e1, hl⟩ := fresh_ok hR1 (G := { G with rv := upd G.rv (id + j) v }) hc (hS.imp (fun h => h) fun h => ⟨h.1, h.2.imp_left fun h => by
        simp only [flatRes, Bool.and_eq_true] at h
        exact h.2⟩) h2 hf
      refine ⟨G', hR, k1.trans k, e1, ?_⟩
      simp only [leafsR]
      exact ⟨v, cs', rfl, leafR_keep k hl1, hl⟩
  | .int k0 :: ts, x, j, cs, G, σ, σ', ls, h, hc, hS, ho, hf => by
    simp only [outR] at ho
    obtain ⟨v, cs', rfl, h1, h2⟩ := ho
    simp only [freshLeafs, Option.map_eq_some_iff] at hf
    obtain ⟨⟨ls', σ1⟩, hf, hx⟩ := hf
    obtain ⟨rfl, rfl⟩ := Prod.mk.inj hx
    obtain ⟨G', hR, k, e1, hl⟩ := fresh_ok h hc (hS.imp (fun h => h) fun h => ⟨h.1, h.2.imp_left fun h => by simpa [flatRes] using h⟩) h2 hf
    refine ⟨G', hR, k, e1, ?_⟩
    simp only [leafsR]
    exact ⟨v, cs', rfl, by simp only [leafR]; exact repL_flat rfl h1, hl⟩
  | .bool :: ts, x, j, cs, G, σ, σ', ls, h, hc, hS, ho, hf => by
    simp only [outR] at ho
    obtain ⟨v, cs', rfl, h1, h2⟩ := ho
    simp only [freshLeafs, Option.map_eq_some_iff] at hf
    obtain ⟨⟨ls', σ1⟩, hf, hx⟩ := hf
    obtain ⟨rfl, rfl⟩ := Prod.mk.inj hx
    obtain ⟨G', hR, k, e1, hl⟩ := fresh_ok h hc (hS.imp (fun h => h) fun h => ⟨h.1, h.2.imp_left fun h => by simpa [flatRes] using h⟩) h2 hf
    refine ⟨G', hR, k, e1, ?_⟩
    simp only [leafsR]
    exact ⟨v, cs', rfl, by simp only [leafR]; exact repL_flat rfl h1, hl⟩
  | .str :: ts, x, j, cs, G, σ, σ', ls, h, hc, hS, ho, hf => by
    simp only [outR] at ho
    obtain ⟨v, cs', rfl, h1, h2⟩ := ho
    simp only [freshLeafs, Option.map_eq_some_iff] at hf
    obtain ⟨⟨ls', σ1⟩, hf, hx⟩ := hf
    obtain ⟨rfl, rfl⟩ := Prod.mk.inj hx
    obtain ⟨G', hR, k, e1, hl⟩ := fresh_ok h hc (hS.imp (fun h => h) fun h => ⟨h.1, h.2.imp_left fun h => by simpa [flatRes] using h⟩) h2 hf
    refine ⟨G', hR, k, e1, ?_⟩
    simp only [leafsR]
    exact ⟨v, cs', rfl, by simp only [leafR]; exact repL_flat rfl h1, hl⟩

theorem outR_one {S : Nat → Prop} {col : Nat → Option Col} {sh dp : Bool} : ∀ {ts : List L} {x : dens ts} {j : Nat} {cs : List Value}, outR S col w sh dp j ts x cs → ∀ u ∈ cs, u.oneCell' = true
  | [], _, _, _, h => by simp only [outR] at h; subst h; simp
  | .list e els :: ts, x, j, cs, h => by
    simp only [outR] at h
    obtain ⟨v, cs', rfl, h1, h2⟩ := h
    intro u hu
    rcases List.mem_cons.1 hu with rfl | hu
    · split at h1
      · exact repL_one roRow_one h1
      · refine repL_one (fun p e sz n v cs hh => ?_) h1
        unfold regRow at hh
        split at hh
        · exact ownRow_one _ _ _ _ _ _ hh
        · exact roRow_one _ _ _ _ _ _ hh
    · exact outR_one h2 u hu
  | .int _ :: ts, x, j, cs, h | .bool :: ts, x, j, cs, h | .str :: ts, x, j, cs, h => by
    simp only [outR] at h
    obtain ⟨v, cs', rfl, h1, h2⟩ := h
    intro u hu
    rcases List.mem_cons.1 hu with rfl | hu
    · exact repL_one roRow_one h1
    · exact outR_one h2 u hu

theorem res_ok {S : Nat → Prop} {col : Nat → Option Col} {sh dp : Bool} {id : Nat} : ∀ {rs : List (Bool × List L)} {x : caps (snds rs)} {j : Nat} {vs : List Value} {G : Gh} {σ σ' : St} {ss : List Slot}, Rel F G σ tmps w →
    (∀ b l j, col b = some (l ++ [(j, 0)]) → G.c b = some (l ++ [(id + j, 0)])) → ((∀ b, S b → stab F G.c w b) ∨ (sh = false ∧ (flatAll rs = true ∨ dp = true))) → resR S col w sh dp rs x j vs → resSlots sh dp id rs x j σ = some (ss, σ') →
    ∃ G', Rel F G' σ' tmps w ∧ Keep F G σ w G' σ' w ∧ G'.c = G.c ∧ slotsR (stab F G'.c w) G' σ' w ss vs
  | [], x, j, vs, G, σ, σ', ss, h, hc, hS, ho, hf => by
    simp only [resR] at ho
    simp only [resSlots, Option.some.injEq] at hf
    obtain ⟨rfl, rfl⟩ := Prod.mk.inj hf
    exact ⟨G, h, Keep.refl _ _ _ _, rfl, by simpa [slotsR] using ho⟩
  | r :: rs, x, j, vs, G, σ, σ', ss, h, hc, hS, ho, hf => by
    simp only [resR] at ho
    obtain ⟨v, vs', cs, rfl, h1, hsl, h2⟩ := ho
    simp only [resSlots, Option.bind_eq_some_iff, Option.map_eq_some_iff] at hf
    obtain ⟨⟨ls, σ1⟩, hf1, s, hs, ⟨ss', σ2⟩, hf2, hx⟩ := hf
    obtain ⟨rfl, rfl⟩ := Prod.mk.inj hx
    obtain ⟨G1, hR1, k1, e1, hl1⟩ := fresh_ok h hc (hS.imp (fun h => h) fun h => ⟨h.1, h.2.imp_left fun h => (by simpa [flatAll] using h : flatRes r.2 = true ∧ flatAll rs = true).1⟩) h1 hf1
    obtain ⟨G2, hR2, k2, e2, hl2⟩ := res_ok hR1 (by rw [e1]; exact hc) (hS.imp (fun h => by rw [e1]; exact h) fun h => ⟨h.1, h.2.imp_left fun h => (by simpa [flatAll] using h : flatRes r.2 = true ∧ flatAll rs = true).2⟩) h2 hf2
    refine ⟨G2, hR2, k1.trans k2, e2.trans e1, ?_⟩
    simp only [slotsR]
    refine ⟨v, vs', rfl, slotR_keep k2 ?_, hl2⟩
    unfold slotRes at hs
    cases hany : anyRes r with
    | true =>
      rw [hany] at hs
      have : Slot.cell .junk = s := by simpa using hs
      subst this
      simp only [slotR, leafR]
    | false =>
    rw [hany] at hs
    simp only [cond_false] at hs
    have hsl : slotV r.1 cs v := hsl.resolve_left fun h => by rw [hany] at h; cases h
    rcases slotOf_ok hs with ⟨ha, rfl⟩ | ⟨ha, l, hl, rfl⟩
    · simp only [slotV, ha, if_true] at hsl
      simp only [slotR]
      exact ⟨cs, hsl, hl1, outR_one h1⟩
    · simp only [slotV, ha, Bool.false_eq_true, if_false] at hsl
      simp only [slotR]
      rw [hl, hsl] at hl1
      simp only [leafsR] at hl1
      obtain ⟨v', vs'', e, h3, _⟩ := hl1
      have : v = v' := by simpa using (List.cons.inj e).1
      rw [this]; exact h3
end
end Go.Ev
end

section
/- The small machine is true to the model: rows that are given away. -/
set_option linter.unusedVariables false
namespace Go.Ev
open Go.RowKit

theorem sameB_eq {a b : Bool} (h : sameB a b = true) : a = b := by cases a <;> cases b <;> simp [sameB] at h ⊢
section
variable {P : Program} {E : Env} {F : Fm} {G : Gh} {σ τ σ' σ0 : St} {a : Act} {w : World} {tmps : Array Value} {H : Nat → List CT}

theorem reg_in {S' : Nat → Prop} (h : Rel F G σ tmps w) (hst : ∀ b, stab F G.c w b → S' b) (hc : ∀ b, G.c b ≠ none → S' b) {r : Nat} {g : Reg} (hr : σ.reg? r = some g) (hn : noH g = true) : repL (roRow w S') (.list g.e g.ls) [] g.xs (G.rv r) := by
  have hreg := h.regs r g hr
  rw [regR_whole (noH_nil hn)] at hreg
  split at hreg
  · exact repL_mono (fun _ _ _ _ _ _ hh => ro_mono (fun b hb => ⟨hst b hb, rfl⟩) hh) hreg
  · refine repL_map (fun l e sz n v cs hh => ?_) hreg
    unfold regRow at hh
    split at hh
    · exact ro_of_own (fun b hb => hc b (by rw [hb]; simp)) hh
    · exact ro_mono (fun b hb => ⟨hst b hb, rfl⟩) hh
theorem as_in {S' : Nat → Prop} (h : Rel F G σ tmps w) (hst : ∀ b, stab F G.c w b → S' b) (hc : ∀ b, G.c b ≠ none → S' b) {t : L} {l : Leaf} {x : t.den} {v : Value} (hl : leafR (stab F G.c w) G σ w l v) (ha : l.as σ t = some x) : repL (roRow w S') t [] x v := by
  unfold Leaf.as at ha
  split at ha
  · next k k' x' =>
    cases hk : kEq k k' with
    | false => rw [hk] at ha; cases ha
    | true =>
      rw [hk] at ha
      injection ha with ha
      subst ha
      have := kEq_eq hk
      subst this
      simpa [leafR, repL] using hl
  · injection ha with ha; subst ha; simpa [leafR, repL] using hl
  · injection ha with ha; subst ha; simpa [leafR, repL] using hl
  · injection ha with ha; subst ha; simpa [leafR, repL] using hl
  · injection ha with ha; subst ha; simpa [leafR, repL] using hl
  · next e ls e' ls' xs =>
    split at ha
    · next hh =>
      injection ha with ha
      subst ha
      simp only [leafR] at hl
      exact cast_elem hh (repL_mono (fun _ _ _ _ _ _ hh => ro_mono (fun b hb => ⟨hst b hb, rfl⟩) hh) hl) _
    · cases ha
  · injection ha with ha; subst ha; simp only [leafR] at hl; subst hl; exact nil_rep ro_nil
  · next e ls r =>
    split at ha
    · next g hg =>
      obtain ⟨hn, ha⟩ := bif_split ha
      split at ha
      · next hh =>
        injection ha with ha
        subst ha
        simp only [leafR] at hl
        rw [hl.2.1]
        exact cast_elem hh (reg_in h hst hc hg hn) _
      · cases ha
    · cases ha
  · cases ha

structure Moved (σ σ' : St) (L : List (Nat × Nat)) : Prop where
  was : ∀ p ∈ L, (σ.reg? p.1).isSome ∧ σ'.reg? p.1 = none
  once : L.Pairwise fun p q => p.1 ≠ q.1
  sub : ∀ r g, σ'.reg? r = some g → σ.reg? r = some g
theorem Moved.refl : Moved σ σ [] := ⟨by simp, by simp, fun _ _ h => h⟩
theorem Moved.trans {σ'' : St} {L L' : List (Nat × Nat)} (h : Moved σ σ' L) (h' : Moved σ' σ'' L') : Moved σ σ'' (L ++ L') where
  was p hp := by
    rcases List.mem_append.1 hp with hp | hp
    · refine ⟨(h.was p hp).1, ?_⟩
      cases hh : σ''.reg? p.1 with
      | none => rfl
      | some g =>
        have := h'.sub _ g hh
        rw [(h.was p hp).2] at this
        cases this
    · refine ⟨?_, (h'.was p hp).2⟩
      have := (h'.was p hp).1
      cases hh : σ'.reg? p.1 with
      | none => rw [hh] at this; cases this
      | some g => rw [h.sub _ g hh]; rfl
  once := by
    rw [List.pairwise_append]
    refine ⟨h.once, h'.once, fun p hp q hq e => ?_⟩
    have h1 := (h.was p hp).2
    have h2 := (h'.was q hq).1
    rw [← e, h1] at h2
    cases h2
  sub r g hg := h.sub r g (h'.sub r g hg)

def Suits (F : Fm) (G : Gh) (w : World) (sh : Bool) (L : List (Nat × Nat)) (S' : Nat → Prop) (col : Nat → Option Col) : Prop :=
  (∀ b, stab F G.c w b → S' b) ∧ (sh = true → ∀ b, G.c b ≠ none → S' b) ∧ ∀ p ∈ L, ∀ b l, G.c b = some (l ++ [(p.1, 0)]) → col b = some (l ++ [(p.2, 0)])
theorem Suits.left {sh : Bool} {L L' : List (Nat × Nat)} {S' : Nat → Prop} {col : Nat → Option Col} (h : Suits F G w sh (L ++ L') S' col) : Suits F G w sh L S' col := ⟨h.1, h.2.1, fun p hp => h.2.2 p (by simp [hp])⟩
theorem Suits.right {sh : Bool} {L L' : List (Nat × Nat)} {S' : Nat → Prop} {col : Nat → Option Col} (h : Suits F G w sh (L ++ L') S' col) : Suits F G w sh L' S' col := ⟨h.1, h.2.1, fun p hp => h.2.2 p (by simp [hp])⟩

def rootOf (p : Col) : Option Nat := match p.getLast? with
  | some (r, 0) => some r
  | _ => none
theorem rootOf_snoc (l : Col) (r : Nat) : rootOf (l ++ [(r, 0)]) = some r := by
  unfold rootOf
  simp
theorem rootOf_some {p : Col} {r : Nat} (h : rootOf p = some r) : p = p.dropLast ++ [(r, 0)] := by
  unfold rootOf at h
  split at h
  · next r' hr =>
    injection h with h
    subst h
    have hne : p ≠ [] := by rintro rfl; simp at hr
    rw [List.getLast?_eq_some_getLast hne] at hr
    injection hr with hr
    conv => lhs; rw [← List.dropLast_concat_getLast hne, hr]
  · cases h
def shiftC (c : Nat → Option Col) (M : List (Nat × Nat)) (b : Nat) : Option Col := (c b).bind fun p => (rootOf p).bind fun r => (look M r).map fun j => p.dropLast ++ [(j, 0)]
theorem shiftC_of {c : Nat → Option Col} {M : List (Nat × Nat)} {b r j : Nat} {l : Col} (h : c b = some (l ++ [(r, 0)])) (hj : look M r = some j) : shiftC c M b = some (l ++ [(j, 0)]) := by
  unfold shiftC
  rw [h]
  simp [rootOf_snoc, hj]
theorem shiftC_none {c : Nat → Option Col} {M : List (Nat × Nat)} {b : Nat} (h : c b = none) : shiftC c M b = none := by
  unfold shiftC
  rw [h]; rfl
theorem shiftC_some {c : Nat → Option Col} {M : List (Nat × Nat)} {b : Nat} {q : Col} (h : shiftC c M b = some q) : ∃ l r j, c b = some (l ++ [(r, 0)]) ∧ look M r = some j ∧ q = l ++ [(j, 0)] := by
  unfold shiftC at h
  simp only [Option.bind_eq_some_iff, Option.map_eq_some_iff] at h
  obtain ⟨p, hp, r, hr, j, hj, rfl⟩ := h
  exact ⟨p.dropLast, r, j, by rw [← rootOf_some hr]; exact hp, hj, rfl⟩
theorem shiftC_ne {c : Nat → Option Col} {M : List (Nat × Nat)} {b : Nat} (h : shiftC c M b ≠ none) : ∃ l r j, c b = some (l ++ [(r, 0)]) ∧ look M r = some j := by
  cases hq : shiftC c M b with
  | none => exact absurd hq h
  | some q =>
    obtain ⟨l, r, j, h1, h2, _⟩ := shiftC_some hq
    exact ⟨l, r, j, h1, h2⟩
def leafPairs : List L → List Leaf → Nat → List (Nat × Nat)
  | .list _ _ :: ts, .reg r :: ls, j => (r, j) :: leafPairs ts ls (j + 1)
  | .list _ _ :: ts, _ :: ls, j => leafPairs ts ls (j + 1)
  | _ :: ts, _ :: ls, j => leafPairs ts ls j
  | _, _, _ => []
def leafRegs : List L → List Leaf → List Nat
  | .list _ _ :: ts, .reg r :: ls => r :: leafRegs ts ls
  | _ :: ts, _ :: ls => leafRegs ts ls
  | _, _ => []
theorem moveAll_ok {dp : Bool} (h : Rel F G σ0 tmps w) : ∀ {ts : List L} {ls : List Leaf} {x : dens ts} {us : List Value} {σ σ' : St} (j : Nat), leafsR (stab F G.c w) G σ0 w ls us → asAll σ0 ts ls = some x → (∀ r g, σ.reg? r = some g → σ0.reg? r = some g) → moveAll dp σ ts ls = some σ' →
    ∃ M, Moved σ σ' M ∧ M.map (fun p => p.1) = leafRegs ts ls ∧ M = leafPairs ts ls j ∧ ∀ S' col, Suits F G w false M S' col → outR S' col w false dp j ts x us
  | [], [], x, us, σ, σ', j, hl, ha, hs, hm => by
    simp only [moveAll, Option.some.injEq] at hm
    subst hm
    simp only [leafsR] at hl
    exact ⟨[], Moved.refl, rfl, rfl, fun S' col _ => by simpa [outR] using hl⟩
  | [], _ :: _, x, us, σ, σ', j, hl, ha, hs, hm => by simp [asAll] at ha
  | _ :: _, [], x, us, σ, σ', j, hl, ha, hs, hm => by simp [asAll] at ha
  | .list e els :: ts, l :: ls, x, us, σ, σ', j, hl, ha, hs, hm => by
    simp only [leafsR] at hl
    obtain ⟨v, vs', rfl, h1, h2⟩ := hl
    simp only [asAll, Option.bind_eq_some_iff, Option.map_eq_some_iff] at ha
    obtain ⟨x1, ha, xr, hr, rfl⟩ := ha
    cases l with
    | nil =>
      simp only [moveAll] at hm
      obtain ⟨M, hL, hks, hps, hout⟩ := moveAll_ok h (j + 1) h2 hr hs hm
      refine ⟨M, hL, hks, hps, fun S' col hsu => ?_⟩
      simp only [outR]
      refine ⟨v, vs', rfl, ?_, by rw [tl_mk]; exact hout S' col hsu⟩
      simp only [Bool.false_eq_true, if_false]
      rw [hd_mk]
      unfold Leaf.as at ha
      simp only at ha
      injection ha with ha
      subst ha
      simp only [leafR] at h1
      subst h1
      refine nil_rep fun p e sz => ?_
      unfold regRow
      split
      · exact .inl ⟨rfl, none, rfl⟩
      · exact ro_nil p e sz
    | reg r =>
      simp only [moveAll] at hm
      split at hm
      · next g hg =>
        obtain ⟨hfa, hm⟩ := bif_some hm
        simp only [Bool.and_eq_true, Bool.not_eq_true'] at hfa
        obtain ⟨⟨⟨hfz, happ⟩, hnh⟩, hdp⟩ := hfa
        have hg0 := hs r g hg
        have hsub : ∀ r' g', (σ.setReg r none).reg? r' = some g' → σ.reg? r' = some g' := fun r' g' hg' => by
          rw [setReg_reg?] at hg'
          split at hg'
          · cases hg'
          · exact hg'
        obtain ⟨M, hL, hks, hps, hout⟩ := moveAll_ok h (j + 1) h2 hr (fun r' g' hg' => hs r' g' (hsub r' g' hg')) hm
        refine ⟨[(r, j)] ++ M, Moved.trans ⟨fun p hp => ?_, by simp, hsub⟩ hL, by simp [leafRegs, hks], by simp [leafPairs, hps], fun S' col hsu => ?_⟩
        · have : p = (r, j) := by simpa using hp
          subst this
          exact ⟨by rw [hg]; rfl, by rw [setReg_reg?, if_pos rfl]⟩
        · simp only [outR]
          refine ⟨v, vs', rfl, ?_, by rw [tl_mk]; exact hout S' col hsu.right⟩
          simp only [Bool.false_eq_true, if_false]
          rw [hd_mk]
          simp only [leafR] at h1
          have hreg := h.regs r g hg0
          unfold Leaf.as at ha
          simp only [hg0] at ha
          obtain ⟨_, ha⟩ := bif_split ha
          split at ha
          · next hq =>
            injection ha with ha
            rw [regR_whole (noH_nil hnh)] at hreg
            obtain ⟨ge, gls, gxs, gapp, gfrz, gdeep, gholes⟩ := g
            simp only at hfz happ hdp hreg
            subst hfz happ
            have hq2 : Nat.beq e ge = true ∧ L.beqs gls els = true := Bool.and_eq_true _ _ ▸ hq
            have e1 := beq_nat hq2.1
            have e2 := L.beqs_eq _ _ hq2.2
            subst e1 e2
            have e3 : gxs = x1 := ha
            subst e3
            simp only [Bool.false_eq_true, if_false] at hreg
            rw [← h1.2.1] at hreg
            have hown : ∀ l e sz n v cs, ownRow w G.c true (l ++ [(r, 0)]) e sz n v cs → ownRow w col true (l ++ [(j, 0)]) e sz n v cs := fun l e sz n v cs => own_mono (fun g hg => ⟨hsu.2.2 (r, j) (by simp) g l hg, rfl⟩) (fun h => h)
            cases hfl : flat gls with
            | true =>
              refine repList_flat hfl (fun sz n v cs hh => ?_) hreg
              unfold regRow at hh ⊢
              rw [if_pos (by simp)] at hh ⊢
              exact hown [] _ _ _ _ _ hh
            | false =>
              have hd : gdeep = dp := by
                rw [hfl, Bool.false_or] at hdp
                exact sameB_eq hdp
              subst hd
              refine repL_map (fun l e sz n v cs hh => ?_) hreg
              unfold regRow at hh ⊢
              cases gdeep with
              | true =>
                rw [if_pos (by simp)] at hh ⊢
                exact hown l _ _ _ _ _ hh
              | false =>
                cases l with
                | nil =>
                  rw [if_pos (by simp)] at hh ⊢
                  exact hown [] _ _ _ _ _ hh
                | cons q l =>
                  rw [if_neg (by simp)] at hh ⊢
                  exact ro_mono (fun b hb => ⟨hsu.1 b hb, rfl⟩) hh
          · cases ha
      · cases hm
    | _ => simp [moveAll] at hm
  | .int k :: ts, l :: ls, x, us, σ, σ', j, hl, ha, hs, hm | .bool :: ts, l :: ls, x, us, σ, σ', j, hl, ha, hs, hm | .str :: ts, l :: ls, x, us, σ, σ', j, hl, ha, hs, hm => by
    simp only [leafsR] at hl
    obtain ⟨v, vs', rfl, h1, h2⟩ := hl
    simp only [asAll, Option.bind_eq_some_iff, Option.map_eq_some_iff] at ha
    obtain ⟨x1, ha, xr, hr, rfl⟩ := ha
    obtain ⟨M, hL, hks, hps, hout⟩ := moveAll_ok h j h2 hr hs (by simpa only [moveAll] using hm)
    refine ⟨M, hL, by simpa only [leafRegs] using hks, by simpa only [leafPairs] using hps, fun S' col hsu => ?_⟩
    simp only [outR]
    refine ⟨v, vs', rfl, ?_, by rw [tl_mk]; exact hout S' col hsu⟩
    rw [hd_mk]
    exact repL_flat rfl (as_now h h1 ha)

theorem moveAll_rel {dp : Bool} {ts : List L} {ls : List Leaf} {σ σ1 : St} (hR : Rel F G σ tmps w) (hm : moveAll dp σ ts ls = some σ1) : Rel F G σ1 tmps w ∧ Keep F G σ w G σ1 w := by
  induction ts generalizing ls σ with
  | nil =>
    cases ls with
    | nil => simp only [moveAll, Option.some.injEq] at hm; subst hm; exact ⟨hR, Keep.refl _ _ _ _⟩
    | cons l ls => simp [moveAll] at hm
  | cons t ts ih =>
    cases ls with
    | nil => cases t <;> simp [moveAll] at hm
    | cons l ls =>
      cases t with
      | list e els =>
        cases l with
        | nil => exact ih hR (by simpa only [moveAll] using hm)
        | reg r =>
          simp only [moveAll] at hm
          split at hm
          · next g hg =>
            obtain ⟨_, hm⟩ := bif_some hm
            obtain ⟨h1, k1⟩ := hR.kill r (reg?_some hg)
            obtain ⟨h2, k2⟩ := ih h1 hm
            exact ⟨h2, k1.trans k2⟩
          · cases hm
        | _ => simp [moveAll] at hm
      | _ => exact ih hR (by simpa only [moveAll] using hm)
theorem look_pairs : ∀ {l : List (Nat × Nat)} {p : Nat × Nat}, l.Pairwise (fun p q => p.1 ≠ q.1) → p ∈ l → look l p.1 = some p.2
  | q :: l, p, h, hp => by
    rw [List.pairwise_cons] at h
    obtain ⟨k, v⟩ := q
    rw [look_cons]
    rcases List.mem_cons.1 hp with rfl | hp
    · rw [if_pos rfl]
    · rw [if_neg (h.1 p hp)]
      exact look_pairs h.2 hp

end
end Go.Ev
end

section
/- The small machine is true to the model: calls that write the rows that they are handed. -/
set_option linter.unusedVariables false
namespace Go.Ev
open Go.RowKit

section
variable {P : Program} {E : Env} {F : Fm} {G G' : Gh} {σ σ' σ0 σ1 σ2 : St} {w w' : World} {a : Act} {tmps : Array Value}

theorem slotsR_length {S : Nat → Prop} : ∀ {ss : List Slot} {vs : List Value}, slotsR S G σ w ss vs → vs.length = ss.length
  | [], _, h => by simp only [slotsR] at h; subst h; rfl
  | s :: ss, _, h => by
    simp only [slotsR] at h
    obtain ⟨v, vs', rfl, _, h2⟩ := h
    simp [slotsR_length h2]

theorem look_key {α : Type} : ∀ {l : List (Nat × α)} {n : Nat} {a : α}, look l n = some a → (n, a) ∈ l
  | (k, b) :: l, n, a, h => by
    rw [look_cons] at h
    split at h
    · next e => subst e; injection h with h; subst h; simp
    · exact List.mem_cons_of_mem _ (look_key h)

theorem reg_free {T : Nat → Prop} (h : Rel F G σ tmps w) (hst : ∀ b, stab F G.c w b → T b) {r : Nat} {g : Reg} (hr : σ.reg? r = some g) (hn : noH g = true) (hc : ∀ b l, G.c b = some (l ++ [(r, 0)]) → T b) : repL (roRow w T) (.list g.e g.ls) [] g.xs (G.rv r) := by
  have hreg := h.regs r g hr
  rw [regR_whole (noH_nil hn)] at hreg
  split at hreg
  · exact repL_mono (fun _ _ _ _ _ _ hh => ro_mono (fun b hb => ⟨hst b hb, rfl⟩) hh) hreg
  · refine repL_map (fun l e sz n v cs hh => ?_) hreg
    unfold regRow at hh
    split at hh
    · exact ro_of_own (fun b hb => hc b l hb) hh
    · exact ro_mono (fun b hb => ⟨hst b hb, rfl⟩) hh
theorem as_free {T : Nat → Prop} (h : Rel F G σ tmps w) (hst : ∀ b, stab F G.c w b → T b) (hc : ∀ r g b l, σ.reg? r = some g → G.c b = some (l ++ [(r, 0)]) → T b) {t : L} {l : Leaf} {x : t.den} {v : Value} (hl : leafR (stab F G.c w) G σ w l v) (ha : l.as σ t = some x) : repL (roRow w T) t [] x v := by
  unfold Leaf.as at ha
  split at ha
  · next k k' x' =>
    cases hk : kEq k k' with
    | false => rw [hk] at ha; cases ha
    | true =>
      rw [hk] at ha
      injection ha with ha
      subst ha
      have := kEq_eq hk
      subst this
      simpa [leafR, repL] using hl
  · injection ha with ha; subst ha; simpa [leafR, repL] using hl
  · injection ha with ha; subst ha; simpa [leafR, repL] using hl
  · injection ha with ha; subst ha; simpa [leafR, repL] using hl
  · injection ha with ha; subst ha; simpa [leafR, repL] using hl
  · next e ls e' ls' xs =>
    split at ha
    · next hh =>
      injection ha with ha
      subst ha
      simp only [leafR] at hl
      exact cast_elem hh (repL_mono (fun _ _ _ _ _ _ hh => ro_mono (fun b hb => ⟨hst b hb, rfl⟩) hh) hl) _
    · cases ha
  · injection ha with ha; subst ha; simp only [leafR] at hl; subst hl; exact nil_rep ro_nil
  · next e ls r =>
    split at ha
    · next g hg =>
      obtain ⟨hn, ha⟩ := bif_split ha
      split at ha
      · next hh =>
        injection ha with ha
        subst ha
        simp only [leafR] at hl
        rw [hl.2.1]
        exact cast_elem hh (reg_free h hst hg hn fun b l hb => hc r g b l hg hb) _
      · cases ha
    · cases ha
  · cases ha

theorem slotLeafs_ok {S : Nat → Prop} {agg : Bool} {s : Slot} {ls : List Leaf} {v : Value} (hs : slotR S G σ w s v) (hl : slotLeafs agg s = some ls) : ∃ cs, leafsR S G σ w ls cs ∧ slotV agg cs v := by
  cases s with
  | cell l =>
    cases agg with
    | true => cases hl
    | false =>
      have : [l] = ls := by simpa [slotLeafs] using hl
      subst this
      simp only [slotR] at hs
      exact ⟨[v], by simp only [leafsR]; exact ⟨v, [], rfl, hs, rfl⟩, by simp [slotV]⟩
  | agg ls' =>
    cases agg with
    | false => cases hl
    | true =>
      have : ls' = ls := by simpa [slotLeafs] using hl
      subst this
      simp only [slotR] at hs
      obtain ⟨cs, hv, h1, _⟩ := hs
      exact ⟨cs, h1, by simp [slotV, hv]⟩
  | tup ss => cases hl

def ioRegs : List PT → List Slot → List Nat
  | .v agg .io ts :: ps, s :: ss => (match slotLeafs agg s with
    | some ls => leafRegs ts ls ++ ioRegs ps ss
    | none => [])
  | _ :: ps, _ :: ss => ioRegs ps ss
  | _, _ => []
def ioPairs : List PT → List Slot → Nat → List (Nat × Nat)
  | .v agg .io ts :: ps, s :: ss, j => (match slotLeafs agg s with
    | some ls => leafPairs ts ls j ++ ioPairs ps ss (j + 16)
    | none => [])
  | _ :: ps, _ :: ss, j => ioPairs ps ss (j + 16)
  | _, _, _ => []
theorem leafPairs_in : ∀ {ts : List L} {ls : List Leaf} {j : Nat} {p : Nat × Nat}, p ∈ leafPairs ts ls j → j ≤ p.2 ∧ p.2 < j + nLists ts
  | [], ls, j, p, h => by cases ls <;> simp [leafPairs] at h
  | t :: ts, [], j, p, h => by cases t <;> simp [leafPairs] at h
  | .list e els :: ts, l :: ls, j, p, h => by
    have key : p ∈ leafPairs ts ls (j + 1) → j ≤ p.2 ∧ p.2 < j + nLists (.list e els :: ts) := fun h => by
      have := leafPairs_in h
      simp only [nLists]; omega
    cases l <;> simp only [leafPairs] at h <;> first
      | exact key h
      | (rcases List.mem_cons.1 h with rfl | h
         · simp only [nLists]; omega
         · exact key h)
  | .int _ :: ts, l :: ls, j, p, h | .bool :: ts, l :: ls, j, p, h | .str :: ts, l :: ls, j, p, h => by
    have := leafPairs_in (ts := ts) (ls := ls) (j := j) (p := p) (by simpa only [leafPairs] using h)
    simpa only [nLists] using this
theorem leafPairs_one : ∀ {ts : List L} {ls : List Leaf} {j : Nat} {p q : Nat × Nat}, p ∈ leafPairs ts ls j → q ∈ leafPairs ts ls j → p.2 = q.2 → p = q
  | [], ls, j, p, q, h, _, _ => by cases ls <;> simp [leafPairs] at h
  | t :: ts, [], j, p, q, h, _, _ => by cases t <;> simp [leafPairs] at h
  | .list _ _ :: ts, l :: ls, j, p, q, h, h', e => by
    cases l <;> simp only [leafPairs] at h h' <;> first
      | exact leafPairs_one h h' e
      | (rcases List.mem_cons.1 h with rfl | h
         · rcases List.mem_cons.1 h' with rfl | h'
           · rfl
           · have := leafPairs_in h'
             simp only at e
             omega
         · rcases List.mem_cons.1 h' with rfl | h'
           · have := leafPairs_in h
             simp only at e
             omega
           · exact leafPairs_one h h' e)
  | .int _ :: ts, l :: ls, j, p, q, h, h', e | .bool :: ts, l :: ls, j, p, q, h, h', e | .str :: ts, l :: ls, j, p, q, h, h', e => leafPairs_one (by simpa only [leafPairs] using h) (by simpa only [leafPairs] using h') e
theorem ioPairs_in : ∀ {ps : List PT} {ss : List Slot} {j : Nat} {p : Nat × Nat}, p ∈ ioPairs ps ss j → j ≤ p.2
  | [], ss, j, p, h => by cases ss <;> simp [ioPairs] at h
  | q :: ps, [], j, p, h => by rcases q with ⟨agg, m, ts⟩ | _ | _ <;> first | (cases m <;> simp [ioPairs] at h) | simp [ioPairs] at h
  | q :: ps, s :: ss, j, p, h => by
    have key : p ∈ ioPairs ps ss (j + 16) → j ≤ p.2 := fun h => by have := ioPairs_in h; omega
    rcases q with ⟨agg, m, ts⟩ | ⟨io, ts⟩ | ⟨f, cs⟩
    · cases m with
      | io =>
        simp only [ioPairs] at h
        split at h
        · rcases List.mem_append.1 h with h | h
          · exact (leafPairs_in h).1
          · exact key h
        · cases h
      | ro => exact key (by simpa only [ioPairs] using h)
      | mv => exact key (by simpa only [ioPairs] using h)
    · exact key (by simpa only [ioPairs] using h)
    · exact key (by simpa only [ioPairs] using h)
theorem ioPairs_one : ∀ {ps : List PT} {ss : List Slot} {j : Nat} {p q : Nat × Nat}, fewIo ps = true → p ∈ ioPairs ps ss j → q ∈ ioPairs ps ss j → p.2 = q.2 → p = q
  | [], ss, j, p, q, _, h, _, _ => by cases ss <;> simp [ioPairs] at h
  | x :: ps, [], j, p, q, _, h, _, _ => by rcases x with ⟨agg, m, ts⟩ | _ | _ <;> first | (cases m <;> simp [ioPairs] at h) | simp [ioPairs] at h
  | x :: ps, s :: ss, j, p, q, hf, h, h', e => by
    rcases x with ⟨agg, m, ts⟩ | ⟨io, ts⟩ | ⟨f, cs⟩
    · cases m with
      | io =>
        simp only [fewIo, Bool.and_eq_true] at hf
        have hn : nLists ts ≤ 16 := Nat.le_of_ble_eq_true hf.1
        simp only [ioPairs] at h h'
        cases hsl : slotLeafs agg s with
        | none => rw [hsl] at h; cases h
        | some ls =>
          rw [hsl] at h h'
          simp only at h h'
          rcases List.mem_append.1 h with h | h
          · rcases List.mem_append.1 h' with h' | h'
            · exact leafPairs_one h h' e
            · have a := leafPairs_in h
              have b := ioPairs_in h'
              omega
          · rcases List.mem_append.1 h' with h' | h'
            · have a := leafPairs_in h'
              have b := ioPairs_in h
              omega
            · exact ioPairs_one hf.2 h h' e
      | ro => exact ioPairs_one (by simpa only [fewIo] using hf) (by simpa only [ioPairs] using h) (by simpa only [ioPairs] using h') e
      | mv => exact ioPairs_one (by simpa only [fewIo] using hf) (by simpa only [ioPairs] using h) (by simpa only [ioPairs] using h') e
    · exact ioPairs_one (by simpa only [fewIo] using hf) (by simpa only [ioPairs] using h) (by simpa only [ioPairs] using h') e
    · exact ioPairs_one (by simpa only [fewIo] using hf) (by simpa only [ioPairs] using h) (by simpa only [ioPairs] using h') e
theorem ioKill_rel {dp : Bool} : ∀ {ps : List PT} {ss : List Slot} {σ σ1 : St}, Rel F G σ tmps w → ioKill dp ps ss σ = some σ1 → Rel F G σ1 tmps w ∧ Keep F G σ w G σ1 w
  | [], [], σ, σ1, h, hk => by simp only [ioKill, Option.some.injEq] at hk; subst hk; exact ⟨h, Keep.refl _ _ _ _⟩
  | [], _ :: _, σ, σ1, h, hk => by simp [ioKill] at hk
  | p :: ps, [], σ, σ1, h, hk => by rcases p with ⟨agg, m, ts⟩ | _ | _ <;> first | (cases m <;> simp [ioKill] at hk) | simp [ioKill] at hk
  | p :: ps, s :: ss, σ, σ1, h, hk => by
    rcases p with ⟨agg, m, ts⟩ | ⟨io, ts⟩ | ⟨f, cs⟩
    · cases m with
      | io =>
        simp only [ioKill, Option.bind_eq_some_iff] at hk
        obtain ⟨ls, hls, σ2, hm, hk⟩ := hk
        obtain ⟨h1, k1⟩ := moveAll_rel h hm
        obtain ⟨h2, k2⟩ := ioKill_rel h1 hk
        exact ⟨h2, k1.trans k2⟩
      | ro => exact ioKill_rel h (by simpa only [ioKill] using hk)
      | mv => exact ioKill_rel h (by simpa only [ioKill] using hk)
    · exact ioKill_rel h (by simpa only [ioKill] using hk)
    · exact ioKill_rel h (by simpa only [ioKill] using hk)

theorem ioArgs_ok {dp : Bool} (h : Rel F G σ0 tmps w) (hR1 : Rel F G σ1 tmps w) : ∀ {ps : List PT} {ss : List Slot} {x : pts ps} {vs : List Value} {σ σ' : St} (j : Nat), slotsR (stab F G.c w) G σ0 w ss vs → slotsR (stab F G.c w) G σ1 w ss vs → (∀ r g, σ.reg? r = some g → σ0.reg? r = some g) →
    ioKill dp ps ss σ = some σ' → argsM σ0 σ1 ps ss = some x → ∃ M, Moved σ σ' M ∧ M.map (fun p => p.1) = ioRegs ps ss ∧ M = ioPairs ps ss j ∧ ∀ T col, Suits F G w false M T col → Reads false F G σ1 w T → argsMR T col w dp ps x j vs
  | [], [], x, vs, σ, σ', j, hs0, hs1, hsub, hk, ha => by
    simp only [ioKill, Option.some.injEq] at hk
    subst hk
    simp only [slotsR] at hs0
    exact ⟨[], Moved.refl, rfl, rfl, fun T col _ _ => by simpa [argsMR] using hs0⟩
  | [], _ :: _, x, vs, σ, σ', j, hs0, hs1, hsub, hk, ha => by simp [ioKill] at hk
  | p :: ps, [], x, vs, σ, σ', j, hs0, hs1, hsub, hk, ha => by rcases p with ⟨agg, m, ts⟩ | _ | _ <;> first | (cases m <;> simp [ioKill] at hk) | simp [ioKill] at hk
  | p :: ps, s :: ss, x, vs, σ, σ', j, hs0, hs1, hsub, hk, ha => by
    simp only [slotsR] at hs0 hs1
    obtain ⟨v, vs', rfl, h1, h2⟩ := hs0
    obtain ⟨v2, vs2, hvv, g1, g2⟩ := hs1
    obtain ⟨rfl, rfl⟩ := List.cons.inj hvv
    have plain : ∀ {x1 : p.den} {xr : pts ps}, argAs false σ1 p s = some x1 → argsM σ0 σ1 ps ss = some xr → pmk x1 xr = x → ioKill dp ps ss σ = some σ' → (∀ T col y, argMR T col w dp j p y v ↔ argR T w p y v) →
        ∃ M, Moved σ σ' M ∧ M.map (fun p => p.1) = ioRegs ps ss ∧ M = ioPairs ps ss (j + 16) ∧ ∀ T col, Suits F G w false M T col → Reads false F G σ1 w T → argsMR T col w dp (p :: ps) x j (v :: vs') := fun {x1 xr} ha1 har hx hk hiff => by
      subst hx
      obtain ⟨M, hM, hks, hps, hout⟩ := ioArgs_ok h hR1 (j + 16) h2 g2 hsub hk har
      refine ⟨M, hM, hks, hps, fun T col hsu hT => ?_⟩
      simp only [argsMR]
      exact ⟨v, vs', rfl, by rw [phd_pmk]; exact (hiff T col _).2 (argAs_ok hR1 hT g1 ha1), by rw [ptl_pmk]; exact hout T col hsu hT⟩
    rcases p with ⟨agg, m, ts⟩ | ⟨io, ts⟩ | ⟨f, cs⟩
    · cases m with
      | io =>
        simp only [ioKill, Option.bind_eq_some_iff] at hk
        obtain ⟨ls, hls, σ2, hm, hk⟩ := hk
        simp only [argsM, Option.bind_eq_some_iff, Option.map_eq_some_iff] at ha
        obtain ⟨ls', hls', x1, ha1, xr, har, rfl⟩ := ha
        rw [hls] at hls'
        injection hls' with hls'
        subst hls'
        obtain ⟨cs, hleafs, hsl⟩ := slotLeafs_ok h1 hls
        obtain ⟨M1, hM1, hk1, hp1, hout1⟩ := moveAll_ok h j hleafs ha1 hsub hm
        obtain ⟨M2, hM2, hk2, hp2, hout2⟩ := ioArgs_ok h hR1 (j + 16) h2 g2 (fun r g hg => hsub r g (hM1.sub r g hg)) hk har
        refine ⟨M1 ++ M2, hM1.trans hM2, by simp [ioRegs, hls, hk1, hk2], by simp [ioPairs, hls, hp1, hp2], fun T col hsu hT => ?_⟩
        simp only [argsMR]
        have e1 : phd (pmk (t := .v agg .io ts) x1 xr) = x1 := phd_pmk (t := .v agg .io ts) x1 xr
        have e2 : ptl (pmk (t := .v agg .io ts) x1 xr) = xr := ptl_pmk (t := .v agg .io ts) x1 xr
        exact ⟨v, vs', rfl, (congrArg (fun z : dens ts => argMR T col w dp j (.v agg .io ts) z v) e1).mpr ⟨cs, hout1 T col hsu.left, hsl⟩, (congrArg (fun z : pts ps => argsMR T col w dp ps z (j + 16) vs') e2).mpr (hout2 T col hsu.right hT)⟩
      | ro =>
        simp only [argsM, Option.bind_eq_some_iff, Option.map_eq_some_iff] at ha
        obtain ⟨x1, ha1, xr, har, hx⟩ := ha
        simpa only [ioRegs, ioPairs] using plain ha1 har hx (by simpa only [ioKill] using hk) fun _ _ _ => Iff.rfl
      | mv =>
        simp only [argsM, Option.bind_eq_some_iff, Option.map_eq_some_iff] at ha
        obtain ⟨x1, ha1, xr, har, hx⟩ := ha
        simpa only [ioRegs, ioPairs] using plain ha1 har hx (by simpa only [ioKill] using hk) fun _ _ _ => Iff.rfl
    · simp only [argsM, Option.bind_eq_some_iff, Option.map_eq_some_iff] at ha
      obtain ⟨x1, ha1, xr, har, hx⟩ := ha
      simpa only [ioRegs, ioPairs] using plain ha1 har hx (by simpa only [ioKill] using hk) fun _ _ _ => Iff.rfl
    · simp only [argsM, Option.bind_eq_some_iff, Option.map_eq_some_iff] at ha
      obtain ⟨x1, ha1, xr, har, hx⟩ := ha
      simpa only [ioRegs, ioPairs] using plain ha1 har hx (by simpa only [ioKill] using hk) fun _ _ _ => Iff.rfl

theorem own_back {c c' c2 : Nat → Option Col} {p p' : Col} {e : TypeId} {sz n n' : Nat} {v : Value} {cs cs' : List Value} (h : ownRow w c true p e sz n v cs) (h' : ownRow w' c' true p' e sz n' v cs') (hc : ∀ g, c g = some p → c2 g = some p) :
    n' = n ∧ ownRow w' c2 true p e sz n' v cs' ∧ (n' = 0 ∨ cs'.length = cs'.length) := by
  rcases h with ⟨rfl, A, rfl⟩ | ⟨g, cap, cur, fr, rfl, hg, hh, h1, h2, h3, h4, h5, h6⟩
  · rcases h' with ⟨rfl, A', hv⟩ | ⟨g', cap', cur', fr', hv, hg', hh', k1, k2, k3, k4, k5, k6⟩
    · exact ⟨rfl, .inl ⟨rfl, A', hv⟩, .inl rfl⟩
    · injection hv with e1 e2 e3
      subst e2
      exact ⟨rfl, .inl ⟨rfl, A, rfl⟩, .inl rfl⟩
  · rcases h' with ⟨rfl, A', hv⟩ | ⟨g', cap', cur', fr', hv, hg', hh', k1, k2, k3, k4, k5, k6⟩
    · injection hv with e1 e2 e3
      exact ⟨e2.symm, .inl ⟨rfl, some ⟨g, 0, none⟩, by rw [e2, e3]⟩, .inl rfl⟩
    · injection hv with e1 e2 e3
      injection e1 with e1
      injection e1 with e1
      subst e1 e2 e3
      exact ⟨rfl, .inr ⟨g, cap, cur', fr', rfl, hc g hg, hh', k1, k2, k3, k4, k5, k6⟩, .inr rfl⟩

structure Back (good : Nat → Reg → Prop) (K : List Nat) (σ σ2 : St) : Prop where
  slots : σ2.slots = σ.slots
  boxes : σ2.boxes = σ.boxes
  lk : ∀ r, (look σ.regs r).isSome → (look σ2.regs r).isSome
  regs : ∀ r g', σ2.reg? r = some g' → good r g' ∨ (r ∉ K ∧ σ.reg? r = some g')
theorem Back.refl {good : Nat → Reg → Prop} : Back good [] σ σ := ⟨rfl, rfl, fun _ h => h, fun r g h => .inr ⟨by simp, h⟩⟩
theorem Back.trans {good : Nat → Reg → Prop} {K K' : List Nat} (h : Back good K σ σ1) (h' : Back good K' σ1 σ2) : Back good (K ++ K') σ σ2 where
  slots := h'.slots.trans h.slots
  boxes := h'.boxes.trans h.boxes
  lk r hr := h'.lk r (h.lk r hr)
  regs r g' hg := by
    rcases h'.regs r g' hg with h1 | ⟨h1, h2⟩
    · exact .inl h1
    · rcases h.regs r g' h2 with h3 | ⟨h3, h4⟩
      · exact .inl h3
      · exact .inr ⟨by simp [h1, h3], h4⟩
theorem back_one {good : Nat → Reg → Prop} {r : Nat} {g : Reg} (hg : good r g) : Back good [r] σ (σ.setReg r (some g)) where
  slots := rfl
  boxes := rfl
  lk r' h := by rw [setReg_look]; exact isSome_if h
  regs r' g' h := by
    rw [setReg_reg?] at h
    split at h
    · next e => subst e; injection h with h; subst h; exact .inl hg
    · next e => exact .inr ⟨by simpa using Ne.symm e, h⟩

def Good (F : Fm) (G G' : Gh) (σ0 : St) (w w' : World) (r : Nat) (g' : Reg) : Prop := (g'.holes = [] ∧ regR (stab F G'.c w') G' w' r g') ∧ ∃ g, σ0.reg? r = some g ∧ g'.ls = g.ls ∧ g'.xs.length = g.xs.length

theorem backLeafs_ok {dp : Bool} (h : Rel F G σ0 tmps w) (hrv : G'.rv = G.rv) {col : Nat → Option Col} : ∀ {ts : List L} {ls : List Leaf} {x0 x : dens ts} {cs : List Value} {σ σ2 σk σk' : St} {j : Nat}, (flatRes ts = true ∨ dp = true) → (∀ p ∈ leafPairs ts ls j, ∀ b l, col b = some (l ++ [(p.2, 0)]) → G'.c b = some (l ++ [(p.1, 0)])) → leafsR (stab F G.c w) G σ0 w ls cs → asAll σ0 ts ls = some x0 →
    (∀ r g, σk.reg? r = some g → σ0.reg? r = some g) → moveAll dp σk ts ls = some σk' → outR (fun _ => True) col w' false dp j ts x cs → backLeafs dp ts ls x σ = some σ2 → Back (Good F G G' σ0 w w') (leafRegs ts ls) σ σ2
  | [], [], x0, x, cs, σ, σ2, σk, σk', j, hfl, hc, hl, ha, hk, hm, ho, hb => by
    simp only [backLeafs, Option.some.injEq] at hb
    subst hb
    exact Back.refl
  | [], _ :: _, x0, x, cs, σ, σ2, σk, σk', j, hfl, hc, hl, ha, hk, hm, ho, hb => by simp [asAll] at ha
  | t :: _, [], x0, x, cs, σ, σ2, σk, σk', j, hfl, hc, hl, ha, hk, hm, ho, hb => by simp [asAll] at ha
  | .list e els :: ts, l :: ls, x0, x, cs, σ, σ2, σk, σk', j, hfl, hc, hl, ha, hk, hm, ho, hb => by
    have hfl1 : flatRes ts = true ∨ dp = true := hfl.imp_left fun hfl => by
      simp only [flatRes, Bool.and_eq_true] at hfl
      exact hfl.2
    have hc1 : ∀ p ∈ leafPairs ts ls (j + 1), ∀ b l, col b = some (l ++ [(p.2, 0)]) → G'.c b = some (l ++ [(p.1, 0)]) := fun p hp => hc p (by
      cases l <;> simp only [leafPairs] <;> first | exact hp | exact List.mem_cons_of_mem _ hp)
    simp only [leafsR] at hl
    obtain ⟨v, vs', rfl, h1, h2⟩ := hl
    simp only [asAll, Option.bind_eq_some_iff, Option.map_eq_some_iff] at ha
    obtain ⟨x1, ha, xr, hr, rfl⟩ := ha
    simp only [outR] at ho
    obtain ⟨v2, vs2, hvv, o1, o2⟩ := ho
    obtain ⟨rfl, rfl⟩ := List.cons.inj hvv
    cases l with
    | nil =>
      simp only [moveAll] at hm
      simp only [backLeafs] at hb
      simpa only [leafRegs] using backLeafs_ok h hrv hfl1 hc1 h2 hr hk hm o2 hb
    | reg r =>
      simp only [moveAll] at hm
      split at hm
      · next g hg =>
        obtain ⟨hfa, hm⟩ := bif_some hm
        simp only [Bool.and_eq_true, Bool.not_eq_true'] at hfa
        obtain ⟨⟨⟨hfz, happ⟩, hnh⟩, hdp⟩ := hfa
        have hg0 := hk r g hg
        have hsub : ∀ r' g', (σk.setReg r none).reg? r' = some g' → σk.reg? r' = some g' := fun r' g' hg' => by
          rw [setReg_reg?] at hg'
          split at hg'
          · cases hg'
          · exact hg'
        simp only [backLeafs] at hb
        have hgood : Good F G G' σ0 w w' r { e, ls := els, xs := hd x, app := true, frz := false, deep := dp && !flat els } := by
          simp only [leafR] at h1
          have hreg := h.regs r g hg0
          unfold Leaf.as at ha
          simp only [hg0] at ha
          obtain ⟨_, ha⟩ := bif_split ha
          split at ha
          · next hq =>
            injection ha with ha
            rw [regR_whole (noH_nil hnh)] at hreg
            obtain ⟨ge, gls, gxs, gapp, gfrz, gdeep, gholes⟩ := g
            simp only at hfz happ hreg
            subst hfz happ
            have hq2 : Nat.beq e ge = true ∧ L.beqs gls els = true := Bool.and_eq_true _ _ ▸ hq
            have e1 := beq_nat hq2.1
            have e2 := L.beqs_eq _ _ hq2.2
            subst e1 e2
            simp only [Bool.false_eq_true, if_false] at hreg
            rw [← h1.2.1] at hreg
            simp only [Bool.false_eq_true, if_false] at o1
            simp only [repL] at hreg o1
            obtain ⟨cs0, r0, len0, el0⟩ := hreg
            obtain ⟨cs1, r1, len1, el1⟩ := o1
            unfold regRow at r0 r1
            rw [if_pos (by simp)] at r0 r1
            have hcr := hc (r, j) (by simp [leafPairs])
            obtain ⟨e3, _⟩ := own_back r0 r1 (c2 := G.c) (fun g hg => hg)
            have r2 := own_mono (w := w') (w' := w') (c' := G'.c) (a' := true) (p' := [(r, 0)]) (fun g hg => ⟨hcr g [] hg, rfl⟩) (fun h => h) r1
            refine ⟨⟨rfl, ?_⟩, _, hg0, rfl, e3⟩
            rw [regR_whole (by rfl)]
            simp only [Bool.false_eq_true, if_false, repL]
            rw [hrv, ← h1.2.1]
            refine ⟨cs1, ?_, len1, fun i x hx => ?_⟩
            · unfold regRow
              rw [if_pos (by simp)]
              exact r2
            · cases hfe : flat gls with
              | true => exact repLs_flat hfe (el1 i x hx)
              | false =>
                rcases hfl with hfl | hd
                · simp only [flatRes, Bool.and_eq_true] at hfl
                  rw [hfl.1] at hfe
                  cases hfe
                · subst hd
                  refine repLs_map (fun l o e sz n v cs hh => ?_) (el1 i x hx)
                  unfold regRow at hh ⊢
                  rw [if_pos (by simp)] at hh ⊢
                  refine own_mono (fun g hg => ⟨?_, rfl⟩) (fun h => h) hh
                  have := hcr g (l ++ [(i, o)]) (by simpa using hg)
                  simpa using this
          · cases ha
        have := (back_one (σ := σ) hgood).trans (backLeafs_ok h hrv hfl1 hc1 h2 hr (fun r' g' hg' => hk r' g' (hsub r' g' hg')) hm o2 hb)
        exact this
      · cases hm
    | _ => simp [moveAll] at hm
  | .int k :: ts, l :: ls, x0, x, cs, σ, σ2, σk, σk', j, hfl, hc, hl, ha, hk, hm, ho, hb | .bool :: ts, l :: ls, x0, x, cs, σ, σ2, σk, σk', j, hfl, hc, hl, ha, hk, hm, ho, hb | .str :: ts, l :: ls, x0, x, cs, σ, σ2, σk, σk', j, hfl, hc, hl, ha, hk, hm, ho, hb => by
    simp only [leafsR] at hl
    obtain ⟨v, vs', rfl, h1, h2⟩ := hl
    simp only [asAll, Option.bind_eq_some_iff, Option.map_eq_some_iff] at ha
    obtain ⟨x1, ha, xr, hr, rfl⟩ := ha
    simp only [outR] at ho
    obtain ⟨v2, vs2, hvv, o1, o2⟩ := ho
    obtain ⟨rfl, rfl⟩ := List.cons.inj hvv
    simpa only [leafRegs] using backLeafs_ok h hrv (by simpa only [flatRes] using hfl) (by simpa only [leafPairs] using hc) h2 hr hk (by simpa only [moveAll] using hm) o2 (by simpa only [backLeafs] using hb)

theorem slotV_inj {agg : Bool} {cs cs' : List Value} {v : Value} (h : slotV agg cs v) (h' : slotV agg cs' v) : cs = cs' := by
  cases agg with
  | true =>
    simp only [slotV, if_true] at h h'
    rw [h] at h'
    injection h' with h'
    simpa using h'
  | false =>
    simp only [slotV, Bool.false_eq_true, if_false] at h h'
    rw [h, h']

theorem backAll_ok {dp : Bool} (h : Rel F G σ0 tmps w) (hrv : G'.rv = G.rv) {col : Nat → Option Col} : ∀ {ps : List PT} {ss : List Slot} {x0 x : pts ps} {vs : List Value} {σ σ2 σk σk' : St} {j : Nat}, (flatIo ps = true ∨ dp = true) → (∀ p ∈ ioPairs ps ss j, ∀ b l, col b = some (l ++ [(p.2, 0)]) → G'.c b = some (l ++ [(p.1, 0)])) → slotsR (stab F G.c w) G σ0 w ss vs → argsM σ0 σ1 ps ss = some x0 →
    (∀ r g, σk.reg? r = some g → σ0.reg? r = some g) → ioKill dp ps ss σk = some σk' → backsR col w' dp ps x j vs → backAll dp ps ss x σ = some σ2 → Back (Good F G G' σ0 w w') (ioRegs ps ss) σ σ2
  | [], [], x0, x, vs, σ, σ2, σk, σk', j, hfl, hc, hl, ha, hk, hm, ho, hb => by
    simp only [backAll, Option.some.injEq] at hb
    subst hb
    exact Back.refl
  | [], _ :: _, x0, x, vs, σ, σ2, σk, σk', j, hfl, hc, hl, ha, hk, hm, ho, hb => by simp [ioKill] at hm
  | p :: ps, [], x0, x, vs, σ, σ2, σk, σk', j, hfl, hc, hl, ha, hk, hm, ho, hb => by rcases p with ⟨agg, m, ts⟩ | _ | _ <;> first | (cases m <;> simp [ioKill] at hm) | simp [ioKill] at hm
  | p :: ps, s :: ss, x0, x, vs, σ, σ2, σk, σk', j, hfl, hc, hl, ha, hk, hm, ho, hb => by
    simp only [slotsR] at hl
    obtain ⟨v, vs', rfl, h1, h2⟩ := hl
    simp only [backsR] at ho
    obtain ⟨v2, vs2, hvv, o1, o2⟩ := ho
    obtain ⟨rfl, rfl⟩ := List.cons.inj hvv
    rcases p with ⟨agg, m, ts⟩ | ⟨io, ts⟩ | ⟨f, cs⟩
    · cases m with
      | io =>
        simp only [ioKill, Option.bind_eq_some_iff] at hm
        obtain ⟨ls, hls, σ3, hm1, hm⟩ := hm
        simp only [argsM, Option.bind_eq_some_iff, Option.map_eq_some_iff] at ha
        obtain ⟨ls', hls', x1, ha1, xr, har, rfl⟩ := ha
        rw [hls] at hls'
        injection hls' with hls'
        subst hls'
        simp only [backAll, hls, Option.bind_some, Option.bind_eq_some_iff] at hb
        obtain ⟨σ4, hb1, hb⟩ := hb
        obtain ⟨cs, hleafs, hsl⟩ := slotLeafs_ok h1 hls
        obtain ⟨cs2, o1, hsl2⟩ := o1
        have := slotV_inj hsl hsl2
        subst this
        have hsub : ∀ r g, σ3.reg? r = some g → σ0.reg? r = some g := fun r g hg => by
          obtain ⟨M, hM, _⟩ := moveAll_ok h 0 hleafs ha1 hk hm1
          exact hk r g (hM.sub r g hg)
        have hf1 : flatRes ts = true ∨ dp = true := hfl.imp_left fun hfl => by
          simp only [flatIo, Bool.and_eq_true] at hfl
          exact hfl.1
        have hf2 : flatIo ps = true ∨ dp = true := hfl.imp_left fun hfl => by
          simp only [flatIo, Bool.and_eq_true] at hfl
          exact hfl.2
        have hc1 : ∀ p ∈ leafPairs ts ls j, ∀ b l, col b = some (l ++ [(p.2, 0)]) → G'.c b = some (l ++ [(p.1, 0)]) := fun p hp => hc p (by simp only [ioPairs, hls]; exact List.mem_append_left _ hp)
        have hc2 : ∀ p ∈ ioPairs ps ss (j + 16), ∀ b l, col b = some (l ++ [(p.2, 0)]) → G'.c b = some (l ++ [(p.1, 0)]) := fun p hp => hc p (by simp only [ioPairs, hls]; exact List.mem_append_right _ hp)
        have := (backLeafs_ok h hrv hf1 hc1 hleafs ha1 hk hm1 o1 hb1).trans (backAll_ok h hrv hf2 hc2 h2 har hsub hm o2 hb)
        simpa only [ioRegs, hls] using this
      | ro =>
        simp only [argsM, Option.bind_eq_some_iff, Option.map_eq_some_iff] at ha
        obtain ⟨x1, ha1, xr, har, hx⟩ := ha
        simpa only [ioRegs] using backAll_ok h hrv (by simpa only [flatIo] using hfl) (by simpa only [ioPairs] using hc) h2 har hk (by simpa only [ioKill] using hm) o2 (by simpa only [backAll] using hb)
      | mv =>
        simp only [argsM, Option.bind_eq_some_iff, Option.map_eq_some_iff] at ha
        obtain ⟨x1, ha1, xr, har, hx⟩ := ha
        simpa only [ioRegs] using backAll_ok h hrv (by simpa only [flatIo] using hfl) (by simpa only [ioPairs] using hc) h2 har hk (by simpa only [ioKill] using hm) o2 (by simpa only [backAll] using hb)
    · simp only [argsM, Option.bind_eq_some_iff, Option.map_eq_some_iff] at ha
      obtain ⟨x1, ha1, xr, har, hx⟩ := ha
      simpa only [ioRegs] using backAll_ok h hrv (by simpa only [flatIo] using hfl) (by simpa only [ioPairs] using hc) h2 har hk (by simpa only [ioKill] using hm) o2 (by simpa only [backAll] using hb)
    · simp only [argsM, Option.bind_eq_some_iff, Option.map_eq_some_iff] at ha
      obtain ⟨x1, ha1, xr, har, hx⟩ := ha
      simpa only [ioRegs] using backAll_ok h hrv (by simpa only [flatIo] using hfl) (by simpa only [ioPairs] using hc) h2 har hk (by simpa only [ioKill] using hm) o2 (by simpa only [backAll] using hb)

theorem stepM_ok (h : Rel F G σ a.tmps w) {c : CtM} (hc : CtM0At P c F.n0 w) {ss : List Slot} {vals : List Value} (hss : slotsR (stab F G.c w) G σ w ss vals) {d : Option Nat} {id : Nat} {ps : List Prop} (hs : stepM σ d id c ss = some (ps, σ')) (hp : ∀ p ∈ ps, p) :
    (∃ fn, P.funcs[c.f]? = some fn ∧ (fn.name == "runtime.NumGoroutine") = false ∧ fn.body.isNone = false) ∧
    Calls P c.f vals.toArray w fun e w' => ∃ v, e = .returned v ∧ Next F σ' a d v w' := by
  unfold stepM at hs
  obtain ⟨hfl, hs⟩ := bif_some hs
  rw [Bool.and_eq_true, Bool.and_eq_true, Bool.or_eq_true] at hfl
  obtain ⟨⟨hfl, hfew⟩, hfr⟩ := hfl
  obtain ⟨σ1, hkill, hs⟩ := Option.bind_eq_some_iff.1 hs
  obtain ⟨x, hx, hs⟩ := Option.bind_eq_some_iff.1 hs
  obtain ⟨σ2, hback, hs⟩ := Option.bind_eq_some_iff.1 hs
  obtain ⟨⟨rs, σ3⟩, hrs, hs⟩ := Option.bind_eq_some_iff.1 hs
  obtain ⟨hR1, k1⟩ := ioKill_rel h hkill
  obtain ⟨M, hM, hMk, hMp, hargs⟩ := ioArgs_ok h hR1 0 hss (slotsR_keep k1 hss) (fun _ _ h => h) hkill hx
  let col : Nat → Option Col := shiftC G.c M
  -- the blocks that are handed in
  have hcol : ∀ b, col b ≠ none → ∃ l r, G.c b = some (l ++ [(r, 0)]) ∧ r ∈ ioRegs c.ps ss ∧ (σ.reg? r).isSome ∧ σ1.reg? r = none := fun b hb => by
    obtain ⟨l, r, j, h1, h2⟩ := shiftC_ne hb
    have hm := look_key h2
    exact ⟨l, r, h1, by rw [← hMk]; exact List.mem_map.2 ⟨_, hm, rfl⟩, (hM.was _ hm).1, (hM.was _ hm).2⟩
  have hcn : ∀ b, G.c b = none → col b = none := fun b hb => shiftC_none hb
  have hbox : ∀ b n, G.c b = some [(n, 1)] → col b = none := fun b n hb => by
    cases hq : col b with
    | none => rfl
    | some q =>
      obtain ⟨l, r, h1, _⟩ := hcol b (by rw [hq]; simp)
      rw [hb] at h1
      have := congrArg List.getLast? (Option.some.inj h1)
      simp at this
  have hsuit : Suits F G w false M (fun b => b < w.heap.size ∧ col b = none) col := by
    refine ⟨fun b hb => ⟨stab_lt h hb, hcn b (stab_none h hb)⟩, by simp, fun p hp b l hb => ?_⟩
    exact shiftC_of hb (look_pairs hM.once hp)
  have hroots : ∀ (l l' : Col) (r r' : Nat), l ++ [(r, 0)] = l' ++ [(r', 0)] → r = r' := fun l l' r r' e => by
    have := congrArg List.getLast? e
    simp at this
    exact this
  have hreads : Reads false F G σ1 w (fun b => b < w.heap.size ∧ col b = none) := {
    rd := fun hl ha => as_free hR1 hsuit.1 (fun r g b l hg hb => ⟨col_lt h hb, by
      cases hcb : col b with
      | none => rfl
      | some j =>
        obtain ⟨l', r', h1, _, _, h2⟩ := hcol b (by rw [hcb]; simp)
        rw [hb] at h1
        have := hroots _ _ _ _ (Option.some.inj h1)
        subst this
        rw [hg] at h2; cases h2⟩) hl ha
    sb := hsuit.1
    bx := fun _ b c _ _ hbc _ => by
      obtain ⟨t, cur, _, b2, _⟩ := hR1.boxes b c hbc
      exact ⟨col_lt h b2, hbox _ _ b2⟩ }
  have hpre : c.pre x := by
    have : ps = [c.pre x] := by
      simp only at hs
      split at hs <;> exact ((Prod.mk.inj (Option.some.inj hs)).1).symm
    exact hp _ (by rw [this]; simp)
  have hn0 : F.n0 ≤ w.heap.size := Nat.le_trans h.hS.n0 h.below.size
  obtain ⟨hfn, hcall⟩ := hc hn0 vals.toArray x _ col (fun b hb => hb) (fun b hb => by
    obtain ⟨_, r, h1, _⟩ := hcol b hb
    have := h.col b (by rw [h1]; simp)
    refine ⟨?_, this.2⟩
    rcases this.1 with h2 | h2
    · exact Nat.le_trans h.hS.n0 h2
    · exact (h.hS.O b h2).1) (hargs _ col hsuit hreads) hpre
  refine ⟨hfn, hcall.mono ?_⟩
  rintro e w' ⟨vs, v, col', rfl, hbel, hsame, hret, hcol', hres, hbk⟩
  refine ⟨v, rfl, ?_⟩
  -- the state behind the call
  let M' : List (Nat × Nat) := M.map fun p => (p.2, p.1)
  let G' : Gh := ⟨fun b => if w.heap.size ≤ b ∨ col b ≠ none then shiftC col' M' b else G.c b, G.bb, G.rv⟩
  have hold : ∀ b p, G.c b = some p → col b = none → G'.c b = some p := fun b p hb hcb => by
    have hlt := col_lt h hb
    simp only [G']
    rw [if_neg (by rintro (h1 | h1); omega; exact h1 hcb)]; exact hb
  have hinv : ∀ p ∈ ioPairs c.ps ss 0, ∀ b l, col' b = some (l ++ [(p.2, 0)]) → G'.c b = some (l ++ [(p.1, 0)]) := fun p hp b l hb => by
    have h1 := hcol' b (by rw [hb]; simp)
    simp only [G']
    rw [if_pos h1.1]
    refine shiftC_of hb ?_
    have hm : (p.2, p.1) ∈ M' := List.mem_map.2 ⟨p, by rw [hMp]; exact hp, rfl⟩
    have hpw : M'.Pairwise fun p q => p.1 ≠ q.1 := by
      rw [List.pairwise_map]
      have hon := hM.once
      rw [hMp] at hon ⊢
      refine List.Pairwise.imp_of_mem (fun {a b} ha hb' hne e => ?_) hon
      have := ioPairs_one hfew ha hb' e
      rw [this] at hne
      exact hne rfl
    exact look_pairs (p := (p.2, p.1)) hpw hm
  have hB := backAll_ok (w' := w') (G' := G') h rfl hfl hinv hss hx (fun _ _ h => h) hkill hbk hback
  have hst : ∀ b, stab F G.c w b → stab F G'.c w' b := fun b hs => by
    have hlt := stab_lt h hs
    rcases hs with hs | hs
    · exact .inl hs
    · refine .inr ⟨hs.1, Nat.lt_of_lt_of_le hlt hbel.size, ?_⟩
      simp only [G']
      rw [if_neg (by rintro (h1 | h1); omega; exact h1 (hcn b hs.2.2))]; exact hs.2.2
  have k2 : Keep F G σ w G' σ2 w' := {
    below := ⟨hbel, fun b hb hO => by
      have hlt := Nat.lt_of_lt_of_le hb h.below.size
      refine hsame b hlt ?_
      cases hcb : col b with
      | none => rfl
      | some j =>
        obtain ⟨_, r, h1, _⟩ := hcol b (by rw [hcb]; simp)
        rcases (h.col b (by rw [h1]; simp)).1 with h2 | h2
        · omega
        · exact absurd h2 hO⟩
    st := fun b hb => ⟨hst b hb, hsame b (stab_lt h hb) (hcn b (stab_none h hb))⟩
    bx := fun b hb => ⟨by rw [hB.boxes]; exact hb, rfl⟩
    rg := fun r hr => ⟨hB.lk r hr, rfl, fun g' hg' => by
      rcases hB.regs r g' hg' with ⟨_, g, h1, h2, h3⟩ | ⟨_, h1⟩
      · exact ⟨g, h1, h2, h3⟩
      · exact ⟨g', h1, rfl, rfl⟩⟩ }
  have hR2 : Rel F G' σ2 a.tmps w' := by
    refine h.next k2 (fun b hb => ?_) (fun b cc hbc => ?_) (fun r g hg => ?_) (fun i => .inl ⟨by rw [hB.slots], rfl⟩) (by rw [hB.slots]; exact h.nslots)
    · simp only [G'] at hb
      split at hb
      · next hcase =>
        obtain ⟨l, r, j, h1, _⟩ := shiftC_ne hb
        have h2 := hcol' b (by rw [h1]; simp)
        refine ⟨?_, h2.2⟩
        rcases hcase with h3 | h3
        · exact .inl (Nat.le_trans h.below.size h3)
        · obtain ⟨_, r', h4, _⟩ := hcol b h3
          exact (h.col b (by rw [h4]; simp)).1
      · have := h.col b hb
        exact ⟨this.1, Nat.lt_of_lt_of_le this.2 hbel.size⟩
    · rw [hB.boxes] at hbc
      obtain ⟨t, cur, _, b2, _⟩ := h.boxes b cc hbc
      refine .inl ⟨hbc, (hold _ _ b2 (hbox _ _ b2)).trans b2.symm, hsame _ (col_lt h b2) (hbox _ _ b2)⟩
    · rcases hB.regs r g hg with h1 | ⟨h1, h2⟩
      · exact .inr ⟨holesIn_nil h1.1.1, h1.1.2⟩
      · refine .inl ⟨h2, .inr fun b p hb hroot => ?_⟩
        suffices hcb : col b = none from ⟨hold b p hb hcb, hsame b (col_lt h hb) hcb⟩
        cases hcb : col b with
        | none => rfl
        | some j =>
          obtain ⟨l', r', h3, h4, _⟩ := hcol b (by rw [hcb]; simp)
          rw [hb] at h3
          obtain ⟨l2, rfl⟩ := hroot
          have := hroots _ _ _ _ (Option.some.inj h3)
          subst this
          exact absurd h4 h1
  obtain ⟨G3, hR3, k3, _, hl⟩ := res_ok (S := fun _ => False) (col := fun _ => none) (sh := false) (id := id + 16) hR2 (fun b l j hj => by cases hj) (.inr ⟨rfl, .inl hfr⟩) hres hrs
  -- the slot
  have hend : ∀ r : Slot, σ' = σ3.setSlot d r → slotR (stab F G3.c w') G3 σ3 w' r v → Next F σ' a d v w' := fun r e hr => by
    subst e
    exact ⟨G3, by rw [put_tmps]; exact hR3.setSlot (Like.refl _) hr⟩
  simp only at hs
  split at hs
  · next r =>
    have e := ((Prod.mk.inj (Option.some.inj hs)).2).symm
    simp only [slotsR] at hl
    obtain ⟨v', vs', hv, hr, hv'⟩ := hl
    subst hv'
    have : v = v' := by
      rcases hret with hret | ⟨hret, _⟩
      · rw [hret] at hv
        simpa using hv
      · rw [hv] at hret
        simp at hret
    rw [this]
    rw [this] at hend
    exact hend r e hr
  · next hne =>
    have e := ((Prod.mk.inj (Option.some.inj hs)).2).symm
    refine hend _ e ?_
    simp only [slotR]
    rcases hret with hret | ⟨hret, hv⟩
    · rw [hret] at hl
      have := slotsR_length hl
      obtain ⟨r, hr⟩ := List.length_eq_one_iff.1 (by simpa using this.symm)
      exact absurd hr (hne r)
    · exact ⟨vs, hv, hl⟩
theorem stepMs_ok (h : Rel F G σ a.tmps w) {f : FuncId} {ss : List Slot} {vals : List Value} (hss : slotsR (stab F G.c w) G σ w ss vals) {d : Option Nat} {id : Nat} {ps : List Prop} (hp : ∀ p ∈ ps, p) :
    ∀ {cs : List CtM}, (∀ c ∈ cs, CtMAt P c F.n0 w) → stepMs σ d id f ss cs = some (ps, σ') →
    (∃ fn, P.funcs[f]? = some fn ∧ (fn.name == "runtime.NumGoroutine") = false ∧ fn.body.isNone = false) ∧
    Calls P f vals.toArray w fun e w' => ∃ v, e = .returned v ∧ Next F σ' a d v w'
  | [], _, hs => by simp [stepMs] at hs
  | c :: cs, hc, hs => by
    unfold stepMs at hs
    cases hf : (Nat.beq c.f f && !c.q) with
    | false =>
      rw [hf] at hs
      exact stepMs_ok h hss hp (fun c' hc' => hc c' (List.mem_cons_of_mem _ hc')) (by simpa using hs)
    | true =>
      rw [hf] at hs
      simp only [Bool.and_eq_true, Bool.not_eq_true'] at hf
      have e := beq_nat hf.1
      subst e
      cases hct : stepM σ d id c ss with
      | none =>
        rw [hct] at hs
        exact stepMs_ok h hss hp (fun c' hc' => hc c' (List.mem_cons_of_mem _ hc')) (by simpa using hs)
      | some r =>
        rw [hct] at hs
        simp only [cond_true, Option.some.injEq] at hs
        subst hs
        exact stepM_ok h ((hc c List.mem_cons_self).plain hf.2) hss hct hp
end
end Go.Ev
end

section
/- The small machine is true to the model, eighteenth part: calls; all operations. -/
set_option linter.unusedVariables false
namespace Go.Ev
open Go.RowKit

section
variable {P : Program} {E : Env} {F : Fm} {G : Gh} {σ σ' : St} {w w' : World} {a : Act} {o : Oper} {tmps : Array Value}

def reroot (k : Nat) (p : Col) : Col := p.dropLast ++ (match p.getLast? with
  | some (j, 0) => [(k + j, 0)]
  | _ => [])
theorem reroot_snoc (k : Nat) (l : Col) (j : Nat) : reroot k (l ++ [(j, 0)]) = l ++ [(k + j, 0)] := by
  unfold reroot
  simp
theorem stepCt_ok (h : Rel F G σ a.tmps w) {c : Ct} (hc : CtAt P c w) {ss : List Slot} {vals : List Value} (hss : slotsR (stab F G.c w) G σ w ss vals) {d : Option Nat} {id : Nat} {ps : List Prop} (hs : stepCt σ d id c ss = some (ps, σ')) (hp : ∀ p ∈ ps, p) :
    (∃ fn, P.funcs[c.f]? = some fn ∧ (fn.name == "runtime.NumGoroutine") = false ∧ fn.body.isNone = false) ∧
    Calls P c.f vals.toArray w fun e w' => ∃ v, e = .returned v ∧ Next F σ' a d v w' := by
  unfold stepCt at hs
  obtain ⟨σ1, hfz, hs⟩ := Option.bind_eq_some_iff.1 hs
  obtain ⟨x, hx, hs⟩ := Option.bind_eq_some_iff.1 hs
  obtain ⟨⟨rs, σ2⟩, hrs, hs⟩ := Option.bind_eq_some_iff.1 hs
  obtain ⟨G1, hR1, k1⟩ : ∃ G', Rel F G' σ1 a.tmps w ∧ Keep F G σ w G' σ1 w := by
    cases hb : (frzArgs c) with
    | true => rw [hb] at hfz; exact frzSlots_ok h hfz
    | false =>
      rw [hb] at hfz
      have : σ = σ1 := by simpa using hfz
      subst this
      exact ⟨G, h, Keep.refl _ _ _ _⟩
  have hargs := argsAs_ok hR1 (Reads.SB (st := frzArgs c) hR1) (slotsR_keep k1 hss) hx
  have hpre : c.pre x := by
    have : ps = [c.pre x] := by
      simp only at hs
      split at hs <;> exact ((Prod.mk.inj (Option.some.inj hs)).1).symm
    exact hp _ (by rw [this]; simp)
  obtain ⟨hfn, hcall⟩ := hc vals.toArray x (SB (frzArgs c) F G1 w) (fun b hb => SB_lt hR1 hb) hargs hpre
  refine ⟨hfn, hcall.mono ?_⟩
  rintro e w' ⟨vs, v, col, rfl, hbel, hret, hcol, hres⟩
  refine ⟨v, rfl, ?_⟩
  obtain ⟨hR2, k2⟩ := hR1.after (cn := fun b => (col b).map (reroot (id + 16))) hbel (fun b hb => hcol b (by
    cases hcb : col b with
    | none => rw [hcb] at hb; simp at hb
    | some _ => simp))
  obtain ⟨G3, hR3, k3, _, hl⟩ := res_ok (S := fun b => SB (frzArgs c) F G1 w b ∨ (w.heap.size ≤ b ∧ b < w'.heap.size ∧ col b = none)) (id := id + 16) hR2
    (fun b l j hj => by
      have := hcol b (by rw [hj]; simp)
      simp only
      rw [if_neg (by omega), hj, Option.map_some, reroot_snoc])
    (by
      cases hb : (frzArgs c) with
      | true =>
        left
        intro b hS
        rcases hS with hS | hS
        · exact (k2.st b (by simpa [SB] using hS)).1
        · refine .inr ⟨.inl (Nat.le_trans hR1.below.size hS.1), hS.2.1, ?_⟩
          simp only
          rw [if_neg (by omega), hS.2.2]
          rfl
      | false =>
        right
        unfold frzArgs at hb
        rw [Bool.or_eq_false_iff] at hb
        refine ⟨hb.1, ?_⟩
        have := hb.2
        cases hfa : flatAll c.rs with
        | true => exact .inl rfl
        | false => rw [hfa] at this; exact .inr (by simpa using this)) hres hrs
  -- the slot
  have hend : ∀ r : Slot, σ' = σ2.setSlot d r → slotR (stab F G3.c w') G3 σ2 w' r v → Next F σ' a d v w' := fun r e hr => by
    subst e
    exact ⟨G3, by rw [put_tmps]; exact hR3.setSlot (Like.refl _) hr⟩
  simp only at hs
  split at hs
  · next r =>
    have e := ((Prod.mk.inj (Option.some.inj hs)).2).symm
    simp only [slotsR] at hl
    obtain ⟨v', vs', hv, hr, hv'⟩ := hl
    subst hv'
    have : v = v' := by
      rcases hret with hret | ⟨hret, _⟩
      · rw [hret] at hv
        simpa using hv
      · rw [hv] at hret
        simp at hret
    rw [this]
    rw [this] at hend
    exact hend r e hr
  · next hne =>
    have e := ((Prod.mk.inj (Option.some.inj hs)).2).symm
    refine hend _ e ?_
    simp only [slotR]
    rcases hret with hret | ⟨hret, hv⟩
    · rw [hret] at hl
      have := slotsR_length hl
      obtain ⟨r, hr⟩ := List.length_eq_one_iff.1 (by simpa using this.symm)
      exact absurd hr (hne r)
    · exact ⟨vs, hv, hl⟩

theorem stepCall_ok (h : Rel F G σ a.tmps w) {f : FuncId} {ss : List Slot} {vals : List Value} (hss : slotsR (stab F G.c w) G σ w ss vals) {d : Option Nat} {id : Nat} {ps : List Prop} (hp : ∀ p ∈ ps, p) :
    ∀ {cs : List Ct}, (∀ c ∈ cs, CtAt P c w) → stepCall σ d id f ss cs = some (ps, σ') →
    (∃ fn, P.funcs[f]? = some fn ∧ (fn.name == "runtime.NumGoroutine") = false ∧ fn.body.isNone = false) ∧
    Calls P f vals.toArray w fun e w' => ∃ v, e = .returned v ∧ Next F σ' a d v w'
  | [], _, hs => by simp [stepCall] at hs
  | c :: cs, hc, hs => by
    unfold stepCall at hs
    cases hf : Nat.beq c.f f with
    | false =>
      rw [hf] at hs
      exact stepCall_ok h hss hp (fun c' hc' => hc c' (List.mem_cons_of_mem _ hc')) (by simpa using hs)
    | true =>
      rw [hf] at hs
      have e := beq_nat hf
      subst e
      cases hct : stepCt σ d id c ss with
      | none =>
        rw [hct] at hs
        exact stepCall_ok h hss hp (fun c' hc' => hc c' (List.mem_cons_of_mem _ hc')) (by simpa using hs)
      | some r =>
        rw [hct] at hs
        simp only [cond_true, Option.some.injEq] at hs
        subst hs
        exact stepCt_ok h (hc c List.mem_cons_self) hss hct hp

theorem slotsR_app {S : Nat → Prop} : ∀ {ss ts : List Slot} {vs us : List Value}, slotsR S G σ w ss vs → slotsR S G σ w ts us → slotsR S G σ w (app ss ts) (vs ++ us)
  | [], _, _, _, h, h' => by simp only [slotsR] at h; subst h; simpa [app] using h'
  | s :: ss, ts, _, us, h, h' => by
    simp only [slotsR] at h
    obtain ⟨v, vs', rfl, h1, h2⟩ := h
    simp only [app, List.cons_append, slotsR]
    exact ⟨v, _, rfl, h1, slotsR_app h2 h'⟩
theorem slotsR_leafs {S : Nat → Prop} : ∀ {ls : List Leaf} {vs : List Value}, leafsR S G σ w ls vs → slotsR S G σ w (mp .cell ls) vs
  | [], _, h => by simpa [leafsR, mp, slotsR] using h
  | l :: ls, _, h => by
    simp only [leafsR] at h
    obtain ⟨v, vs', rfl, h1, h2⟩ := h
    simp only [mp, slotsR]
    exact ⟨v, vs', rfl, by simp only [slotR]; exact h1, slotsR_leafs h2⟩
theorem args_ok (h : Rel F G σ a.tmps w) : ∀ (xs : List Operand), slotsR (stab F G.c w) G σ w (mp σ.op xs) (xs.map a.eval)
  | [] => by simp [mp, slotsR]
  | x :: xs => by
    simp only [mp, List.map_cons, slotsR]
    exact ⟨_, _, rfl, op_ok h x, args_ok h xs⟩

theorem call_ok (hC : EnvCts P E F.w0 F.n0) (h : Rel F G σ a.tmps w) {c : Call} {f : Operand} (ho : o.op = .call c) (hcal : c.callee = .value f) {g : FuncId} {cs : List Leaf} (hf : σ.op f = .cell (.clo g cs)) {id : Nat} {ps : List Prop}
    (hs : or0 (stepCall σ o.dst id g (app (mp σ.op c.args.toList) (mp .cell cs)) E.cts) (stepMs σ o.dst id g (app (mp σ.op c.args.toList) (mp .cell cs)) E.ms) = some (ps, σ')) (hp : ∀ p ∈ ps, p) : OpOk P o a w (Next F σ' a o.dst) := by
  have hv := op_ok h f
  rw [hf] at hv
  simp only [slotR, leafR] at hv
  obtain ⟨cvs, hv, hcvs⟩ := hv
  have hboth : (∃ fn, P.funcs[g]? = some fn ∧ (fn.name == "runtime.NumGoroutine") = false ∧ fn.body.isNone = false) ∧
      Calls P g (c.args.toList.map a.eval ++ cvs).toArray w fun e w' => ∃ v, e = .returned v ∧ Next F σ' a o.dst v w' := by
    have hss := slotsR_app (args_ok h c.args.toList) (slotsR_leafs hcvs)
    cases h1 : stepCall σ o.dst id g (app (mp σ.op c.args.toList) (mp .cell cs)) E.cts with
    | some r =>
      rw [h1] at hs
      simp only [or0, Option.some.injEq] at hs
      subst hs
      exact stepCall_ok h hss hp (fun c hc => hC.1 c hc w h.below.below) h1
    | none =>
      rw [h1] at hs
      exact stepMs_ok h hss hp (fun c hc => hC.2 c hc w h.below.below) hs
  obtain ⟨⟨fn, hfn, hname, hbody⟩, hcalls⟩ := hboth
  have hargs : c.args.map a.eval ++ cvs.toArray = (c.args.toList.map a.eval ++ cvs).toArray := by
    apply Array.ext'
    simp
  have hrun : (execOp a.eval o).run P w = .ok (.enter g (c.args.map a.eval ++ cvs.toArray)) w := by
    have hn : ¬ fn.name = "runtime.NumGoroutine" := by simpa using hname
    have hb : ¬ fn.body = none := fun e => by rw [e] at hbody; cases hbody
    simp [execOp, ho, resolve, hcal, hv, Deferred.ofValue, invoke, callFunc, hfn, hn, hb]
  unfold OpOk
  rw [hrun, hargs]
  exact hcalls

theorem natsB_get : ∀ {fs : List Field} {ts : List Nat} {n t : Nat}, natsB fs ts = true → nth? ts n = some t → ∃ f, fs[n]? = some f ∧ f.type = t
  | [], [], _, _, _, h => by simp [nth?] at h
  | [], _ :: _, _, _, h, _ => by simp [natsB] at h
  | _ :: _, [], _, _, h, _ => by simp [natsB] at h
  | f :: fs, u :: ts, 0, t, h, hn => by
    simp only [natsB, Bool.and_eq_true] at h
    simp only [nth?, Option.some.injEq] at hn
    exact ⟨f, rfl, by rw [beq_nat h.1]; exact hn⟩
  | f :: fs, u :: ts, n + 1, t, h, hn => by
    simp only [natsB, Bool.and_eq_true] at h
    obtain ⟨f', h1, h2⟩ := natsB_get h.2 (by simpa [nth?] using hn)
    exact ⟨f', by simpa using h1, h2⟩
theorem field_ok (hE : EnvOk P E) (h : Rel F G σ a.tmps w) {t : TypeId} {x : Operand} {f : Nat} (ho : o.op = .field t x f) {id : Nat} {ps : List Prop} (hs : stepOp E σ id o.dst o.type (.field t x f) = some (ps, σ')) : OpOk P o a w (Next F σ' a o.dst) := by
  have hop := op_ok h x
  simp only [stepOp, Option.bind_eq_some_iff] at hs
  obtain ⟨i, hi, j, hj, hs⟩ := hs
  split at hs
  · next fs c hk hx =>
    cases hft : E.fieldTy t f o.type with
    | false => rw [hft] at hs; cases hs
    | true =>
      rw [hft] at hs
      simp only [Bool.not_true, cond_false, Option.bind_eq_some_iff, Option.map_eq_some_iff] at hs
      obtain ⟨q, hq, ls, hls, s, hsl, hs⟩ := hs
      obtain ⟨_, rfl⟩ := Prod.mk.inj hs
      rw [hx] at hop
      simp only [slotR] at hop
      obtain ⟨cs, hv, hcs, h1⟩ := hop
      obtain ⟨fields, hu, hfb⟩ := ti_st (hE.ti hi) hk
      obtain ⟨fd, fi, hfd, e1, hfi, hfs, hfn⟩ := fieldsB_ok hfb hq
      have hty : fd.type = o.type := by
        unfold Env.fieldTy at hft
        split at hft
        · next l hl =>
          split at hft
          · next u hu' =>
            have hb := allB_look (f := fun p => match P.underlying p.1 with | some (.struct fs) => natsB fs.toList p.2 | _ => false) hE.ft hl
            simp only [hu] at hb
            obtain ⟨f', g1, g2⟩ := natsB_get hb hu'
            rw [hfd] at g1
            injection g1 with g1
            rw [g1, g2, beq_nat hft]
          · cases hft
        · cases hft
      have hfd' : fields[f]? = some fd := by rw [← Array.getElem?_toList]; exact hfd
      obtain ⟨hr, hll⟩ := leafsR_tkAs (leafsR_drop q.1 hcs) hls
      obtain ⟨ti, ht1, ht2, hk2⟩ := ti_agg (hE.ti hj)
      have hfe : fi = ti := by
        rw [hty, ht1] at hfi
        exact (Option.some.inj hfi).symm
      have hle : q.1 + q.2.length ≤ cs.length := by
        have := tkAs_len hls
        rw [dp_drop, List.length_drop, ← leafsR_length hcs] at this
        have h0 : q.2.length ≠ 0 := by rw [← hfs]; exact hfn
        omega
      have hpart : ∀ v, (part fd.type cs.toArray fd.offset).run P w = .ok v w → (execOp a.eval o).run P w = .ok (.value v) w := fun v hv' => by
        simp [execOp, ho, hv, Instr.field, run_underlying hu, hfd', asAgg, hv']
      rcases slotOf_ok hsl with ⟨hb, rfl⟩ | ⟨hb, l', rfl, rfl⟩
      · rcases hk2 with ⟨_, fs', hu'⟩ | ⟨hk2, _⟩
        · refine opOk_same h (v := .agg ((cs.drop q.1).take q.2.length).toArray) (hpart _ ?_) ?_
          · have he : cs.toArray.extract fd.offset (fd.offset + fi.size) = ((cs.drop q.1).take q.2.length).toArray := by
              rw [← e1, hfs]
              apply Array.ext'
              simp
            have hfi' := hfi
            rw [hty] at hfi' ⊢
            simp [part, isAgg, run_underlying hu', sizeOf, typeInfo, hfi']
            rw [← e1, hfs]
          · simp only [slotR]
            exact ⟨_, rfl, hr, fun u hu => h1 u (List.drop_subset _ _ (List.take_subset _ _ hu))⟩
        · rw [hb] at hk2; cases hk2
      · rcases hk2 with ⟨hk2, _⟩ | ⟨_, hl1, d, hu', hn1, hn2⟩
        · rw [hb] at hk2; cases hk2
        · have hq1 : q.2.length = 1 := by simpa using hll.symm
          simp only [leafsR] at hr
          obtain ⟨v, vs', hvs, hr, hvs'⟩ := hr
          subst hvs'
          refine opOk_one h (v := v) (hpart _ ?_) hr
          have hcell : cs[fd.offset]? = some v := by
            rw [← e1]
            have : ((cs.drop q.1).take q.2.length)[0]? = some v := by rw [hvs]; rfl
            rw [List.getElem?_take, if_pos (by omega), List.getElem?_drop] at this
            simpa using this
          rw [hty]
          have hagg : (isAgg o.type).run P w = .ok false w := by
            simp only [isAgg, Sem.run_bind, run_underlying hu', Result.andThen_ok]
            cases d <;> first | rfl | exact absurd rfl (hn1 _) | exact absurd rfl (hn2 _ _)
          simp [part, hagg, hcell]
  · cases hs

theorem mp_one {α β : Type} {f : α → β} {l : List α} {b : β} (h : mp f l = [b]) : ∃ a, l = [a] ∧ f a = b := by
  match l, h with
  | [a], h => exact ⟨a, rfl, by simpa [mp] using h⟩
  | [], h => simp [mp] at h
  | a :: a' :: l, h => simp [mp] at h
theorem mp_two {α β : Type} {f : α → β} {l : List α} {b c : β} (h : mp f l = [b, c]) : ∃ a a', l = [a, a'] ∧ f a = b ∧ f a' = c := by
  match l, h with
  | [a, a'], h =>
    simp only [mp, List.cons.injEq, and_true] at h
    exact ⟨a, a', rfl, h.1, h.2⟩
  | [], h => simp [mp] at h
  | [a], h => simp [mp] at h
  | a :: a' :: a'' :: l, h => simp [mp] at h
theorem step_ok (hE : EnvOk P E) (hC : EnvCts P E F.w0 F.n0) (h : Rel F G σ a.tmps w) {id : Nat} {ps : List Prop} (hs : step E σ id o = some (ps, σ')) (hp : ∀ p ∈ ps, p) : OpOk P o a w (Next F σ' a o.dst) := by
  unfold step at hs
  cases hop : o.op with
  | move x => rw [hop] at hs; cases hs; exact move_ok h (.inl hop)
  | assign x => rw [hop] at hs; cases hs; exact move_ok h (.inr hop)
  | pick c x y => rw [hop] at hs; exact pick_ok h hop hs
  | alloc t => rw [hop] at hs; exact alloc_ok hE h hop hs
  | box t x => rw [hop] at hs; exact box_ok hE h hop hs
  | load t x => rw [hop] at hs; exact load_ok hE h hop hs
  | store t x y => rw [hop] at hs; exact store_ok hE h hop hs
  | nilCheck x => rw [hop] at hs; exact nil_ok h hop hs
  | binOp op t x y u => rw [hop] at hs; exact bin_ok hE h hop hs hp
  | unOp op t x => rw [hop] at hs; exact un_ok h hop hs
  | convert s t x => rw [hop] at hs; exact conv_ok hE h hop hs hp
  | build t ps => rw [hop] at hs; exact build_ok hE h hop hs
  | buildSlice t n ps => rw [hop] at hs; exact buildSlice_ok hE h hop hs
  | makeSlice t n c => rw [hop] at hs; exact makeSlice_ok hE h hop hs hp
  | makeFunc fn first cs =>
    rw [hop] at hs
    cases fn with
    | func f => exact makeFunc_ok h hop hs
    | _ => cases hs
  | fieldAddr t x f => rw [hop] at hs; exact fieldAddr_ok hE h hop hs
  | field t x f => rw [hop] at hs; exact field_ok hE h hop hs
  | indexAddr t x ix => rw [hop] at hs; exact indexAddr_ok hE h hop hs hp
  | index t x ix => rw [hop] at hs; exact index_ok hE h hop hs hp
  | slice t x lo hi mx =>
    rw [hop] at hs
    cases mx with
    | some _ => cases hs
    | none =>
      simp only [stepOp, Option.bind_eq_some_iff] at hs
      obtain ⟨l, hl, u, hu, hs⟩ := hs
      exact slice_ok hE h hop hl hu hs hp
  | extract x n => rw [hop] at hs; exact extract_ok h hop hs
  | makeInterface t x => rw [hop] at hs; cases hs; exact (hp False (by simp)).elim
  | panic x => rw [hop] at hs; cases hs; exact (hp False (by simp)).elim
  | call c =>
    rw [hop] at hs
    simp only [stepOp] at hs
    split at hs
    · next x hb hargs =>
      split at hs
      · next t ts hty =>
        obtain ⟨y, hy, rfl⟩ := mp_one hargs
        exact len_ok hE h hop hb (by rw [← hy]) hty hs
      · cases hs
    · next sl xl hb hargs =>
      split at hs
      · next t t' hty =>
        obtain ⟨htt, hs2⟩ := bif_some hs
        have e := beq_nat htt
        subst e
        obtain ⟨y, z, hy, e1, e2⟩ := mp_two hargs
        exact append_ok hE h hop hb hy hty e1 e2 hs2 hp
      · cases hs
    · next x y hb hargs =>
      obtain ⟨y1, y2, hy, rfl, rfl⟩ := mp_two hargs
      exact minmax_ok (mx := false) h hop (by simpa using hb) (by rw [← hy]) hs
    · next x y hb hargs =>
      obtain ⟨y1, y2, hy, rfl, rfl⟩ := mp_two hargs
      exact minmax_ok (mx := true) h hop (by simpa using hb) (by rw [← hy]) hs
    · next f hb =>
      split at hs
      · next g cs hf => exact call_ok hC h hop hb hf hs hp
      · cases hs
    · cases hs
  | _ => rw [hop] at hs; cases hs
end
end Go.Ev
end

section
/- The small machine is true to the model: rows that own what their elements' slices hold, first part: colors that move. -/
set_option linter.unusedVariables false
namespace Go.Ev
open Go.RowKit

section
variable {F : Fm} {G G' : Gh} {σ σ' : St} {w w' : World} {tmps : Array Value}

def DeadD (σ : St) (G : Gh) (b : Nat) : Prop := ∃ (r : Nat) (l : Col), G.c b = some (l ++ [(r, 0)]) ∧ look σ.regs r = some none
theorem DeadD.none {b : Nat} (h : DeadD σ G b) : G.c b ≠ none := by
  obtain ⟨r, l, h, _⟩ := h
  rw [h]; simp
structure GrowD (F : Fm) (G : Gh) (σ : St) (w : World) (c' : Nat → Option Col) (w' : World) : Prop where
  os : w'.os = w.os
  tape : w'.tape = w.tape
  output : w'.output = w.output
  size : w.heap.size ≤ w'.heap.size
  old : ∀ b, b < w.heap.size → (w'.heap[b]? = w.heap[b]? ∧ c' b = G.c b) ∨ DeadD σ G b
  c2 : ∀ b, c' b ≠ none → F.own b ∧ b < w'.heap.size
theorem last_eq {l l' : Col} {r r' : Nat} (h : l ++ [(r, 0)] = l' ++ [(r', 0)]) : l = l' ∧ r = r' := by
  have h1 := List.append_inj' h rfl
  exact ⟨h1.1, by simpa using h1.2⟩
theorem last_box {l : Col} {r n : Nat} (h : [(n, 1)] = l ++ [(r, 0)]) : False := by
  have := congrArg List.getLast? h
  simp at this
theorem GrowD.free {c' : Nat → Option Col} (g : GrowD F G σ w c' w') {b : Nat} (hl : b < w.heap.size) (hb : G.c b = none) : w'.heap[b]? = w.heap[b]? ∧ c' b = G.c b :=
  (g.old b hl).resolve_right fun h => h.none hb
theorem GrowD.box {c' : Nat → Option Col} (g : GrowD F G σ w c' w') {b n : Nat} (hl : b < w.heap.size) (hb : G.c b = some [(n, 1)]) : w'.heap[b]? = w.heap[b]? ∧ c' b = G.c b :=
  (g.old b hl).resolve_right fun ⟨r, l, h, _⟩ => by
    rw [hb] at h
    exact last_box (Option.some.inj h)
theorem GrowD.row {c' : Nat → Option Col} (g : GrowD F G σ w c' w') {b r : Nat} {p : Col} (hl : b < w.heap.size) (hb : G.c b = some p) (hp : rooted r p) (hr : (σ.reg? r).isSome) : w'.heap[b]? = w.heap[b]? ∧ c' b = G.c b :=
  (g.old b hl).resolve_right fun ⟨r', l', h, h'⟩ => by
    obtain ⟨l, rfl⟩ := hp
    rw [hb] at h
    obtain ⟨_, rfl⟩ := last_eq (Option.some.inj h)
    unfold St.reg? at hr
    rw [h'] at hr
    cases hr
theorem GrowD.stab (h : Rel F G σ tmps w) {c' : Nat → Option Col} (g : GrowD F G σ w c' w') {b : Nat} (hb : stab F G.c w b) : stab F c' w' b := by
  have hl := stab_lt h hb
  have hc := stab_none h hb
  rcases hb with hb | hb
  · exact .inl hb
  · exact .inr ⟨hb.1, Nat.lt_of_lt_of_le hl g.size, (g.free hl hc).2.trans hc⟩
theorem GrowD.below (h : Rel F G σ tmps w) {c' : Nat → Option Col} (g : GrowD F G σ w c' w') : BelowO F w w' := by
  have key : ∀ k, k < F.w0.heap.size → ¬ F.O k → w'.heap[k]? = w.heap[k]? := fun k hk hO => by
    have hl := Nat.lt_of_lt_of_le hk h.below.size
    cases hc : G.c k with
    | none => exact (g.free hl hc).1
    | some p =>
      rcases (h.col k (by rw [hc]; simp)).1 with h1 | h1
      · omega
      · exact absurd h1 hO
  exact ⟨⟨g.os, g.tape, g.output, g.size, fun k hk => key k (Nat.lt_of_lt_of_le hk h.hS.n0) fun hO => by have := (h.hS.O k hO).1; omega⟩, key⟩
theorem Rel.growD (h : Rel F G σ tmps w) {c' : Nat → Option Col} (g : GrowD F G σ w c' w') : Rel F { G with c := c' } σ tmps w' ∧ Keep F G σ w { G with c := c' } σ w' := by
  have k : Keep F G σ w { G with c := c' } σ w' := {
    below := g.below h
    st := fun b hb => ⟨g.stab h hb, (g.free (stab_lt h hb) (stab_none h hb)).1⟩
    bx := fun b hb => ⟨hb, rfl⟩
    rg := fun r hr => ⟨hr, rfl, fun g' hg' => ⟨g', hg', rfl, rfl⟩⟩ }
  refine ⟨h.next k (fun b hb => g.c2 b hb) (fun b c hc => ?_) (fun r g0 hr => ?_) (fun i => .inl ⟨rfl, rfl⟩) h.nslots, k⟩
  · obtain ⟨t', cur', b1, b2, _⟩ := h.boxes b c hc
    have := g.box (col_lt h b2) b2
    exact .inl ⟨hc, this.2, this.1⟩
  · refine .inl ⟨hr, .inr fun b p hb hp => ?_⟩
    have := g.row (col_lt h hb) hb hp (by rw [hr]; rfl)
    exact ⟨this.2.trans hb, this.1⟩

def moveC (c : Nat → Option Col) (M : Nat → Option (Col → Col)) (b : Nat) : Option Col := (c b).bind fun p => match rootOf p with
  | some r => (match M r with
    | some f => some (f p.dropLast)
    | none => some p)
  | none => some p
theorem moveC_hit {c : Nat → Option Col} {M : Nat → Option (Col → Col)} {b r : Nat} {l : Col} {f : Col → Col} (h : c b = some (l ++ [(r, 0)])) (hf : M r = some f) : moveC c M b = some (f l) := by
  unfold moveC
  rw [h]
  simp [rootOf_snoc, hf]
theorem moveC_none {c : Nat → Option Col} {M : Nat → Option (Col → Col)} {b : Nat} (h : c b = none) : moveC c M b = none := by
  unfold moveC
  rw [h]; rfl
theorem moveC_ne {c : Nat → Option Col} {M : Nat → Option (Col → Col)} {b : Nat} (h : moveC c M b ≠ none) : c b ≠ none := fun e => h (moveC_none e)
theorem moveC_or {c : Nat → Option Col} {M : Nat → Option (Col → Col)} (b : Nat) : moveC c M b = c b ∨ ∃ (r : Nat) (l : Col), c b = some (l ++ [(r, 0)]) ∧ (M r).isSome := by
  cases hb : c b with
  | none => exact .inl (moveC_none hb)
  | some p =>
    unfold moveC
    rw [hb]
    simp only [Option.bind_some]
    cases hr : rootOf p with
    | none => exact .inl rfl
    | some r =>
      simp only
      cases hm : M r with
      | none => exact .inl rfl
      | some f => exact .inr ⟨r, p.dropLast, by rw [← rootOf_some hr], by rw [hm]; rfl⟩

structure Gone (σ σ' : St) (M : List (Nat × (Nat × Nat))) : Prop where
  was : ∀ p ∈ M, (σ.reg? p.1).isSome ∧ look σ'.regs p.1 = some none
  once : M.Pairwise fun p q => p.1 ≠ q.1
  sub : ∀ r g, σ'.reg? r = some g → σ.reg? r = some g
  mono : ∀ r, look σ.regs r = some none → look σ'.regs r = some none
theorem Gone.refl : Gone σ σ [] := ⟨by simp, by simp, fun _ _ h => h, fun _ h => h⟩
theorem Gone.trans {σ'' : St} {M M' : List (Nat × (Nat × Nat))} (h : Gone σ σ' M) (h' : Gone σ' σ'' M') : Gone σ σ'' (M ++ M') where
  was p hp := by
    rcases List.mem_append.1 hp with hp | hp
    · exact ⟨(h.was p hp).1, h'.mono _ (h.was p hp).2⟩
    · refine ⟨?_, (h'.was p hp).2⟩
      have := (h'.was p hp).1
      cases hh : σ'.reg? p.1 with
      | none => rw [hh] at this; cases this
      | some g => rw [h.sub _ g hh]; rfl
  once := by
    rw [List.pairwise_append]
    refine ⟨h.once, h'.once, fun p hp q hq e => ?_⟩
    have h1 := (h.was p hp).2
    have h2 := (h'.was q hq).1
    rw [← e] at h2
    unfold St.reg? at h2
    rw [h1] at h2
    cases h2
  sub r g hg := h.sub r g (h'.sub r g hg)
  mono r hr := h'.mono r (h.mono r hr)
theorem Gone.kill {r : Nat} {q : Nat × Nat} (h : (σ.reg? r).isSome) : Gone σ (σ.setReg r none) [(r, q)] where
  was p hp := by
    have : p = (r, q) := by simpa using hp
    subst this
    exact ⟨h, by rw [setReg_look, if_pos rfl]⟩
  once := by simp
  sub r' g' hg' := by
    rw [setReg_reg?] at hg'
    split at hg'
    · cases hg'
    · exact hg'
  mono r' hr' := by
    rw [setReg_look]
    split
    · rfl
    · exact hr'

def Lies (G : Gh) (w : World) (M : List (Nat × (Nat × Nat))) (P : Col) (c' : Nat → Option Col) (w' : World) : Prop := ∀ p ∈ M, ∀ b l, G.c b = some (l ++ [(p.1, 0)]) → c' b = some (l ++ p.2 :: P) ∧ w'.heap[b]? = w.heap[b]?

theorem own_moved (h : Rel F G σ tmps w) {r : Nat} {g : Reg} (hr : σ.reg? r = some g) (hf : g.frz = false) {a : Bool} (ha : a = true → g.app = true) (hn : noH g = true) (hd : (flat g.ls || g.deep) = true) {c' : Nat → Option Col} {S : Nat → Prop} {q : Col}
    (hl : ∀ b l, G.c b = some (l ++ [(r, 0)]) → c' b = some (l ++ q) ∧ w'.heap[b]? = w.heap[b]?) : repL (regRow w' S c' a true) (.list g.e g.ls) q g.xs (G.rv r) := by
  have hreg := h.regs r g hr
  rw [regR_whole (noH_nil hn), if_neg (by simp [hf])] at hreg
  have hown : ∀ l e sz n v cs, ownRow w G.c g.app (l ++ [(r, 0)]) e sz n v cs → ownRow w' c' a (l ++ q) e sz n v cs := fun l e sz n v cs => own_mono (fun b hb => hl b l hb) ha
  cases hfl : flat g.ls with
  | true =>
    refine repList_flat hfl (fun sz n v cs hh => ?_) hreg
    unfold regRow at hh ⊢
    rw [if_pos (by simp)] at hh ⊢
    exact hown [] _ _ _ _ _ hh
  | false =>
    have hdd : g.deep = true := by rw [hfl, Bool.false_or] at hd; exact hd
    refine repL_map (fun l e sz n v cs hh => ?_) hreg
    unfold regRow at hh ⊢
    rw [if_pos (.inr hdd)] at hh
    rw [if_pos (by simp)]
    exact hown l _ _ _ _ _ hh

theorem rep_cons {R : Rw} {t : L} {ts : List L} {p : Col} {i o : Nat} {a : t.den} {r : dens ts} {v : Value} {vs : List Value} (h1 : repL R t ((i, o) :: p) a v) (h2 : repLs R ts p i (o + 1) r vs) : repLs R (t :: ts) p i o (mk a r) (v :: vs) :=
  repLs_cons.2 ⟨v, vs, rfl, by rw [hd_mk]; exact h1, by rw [tl_mk]; exact h2⟩
theorem absD_ok : ∀ {ts : List L} {ls : List Leaf} {x : dens ts} {vs : List Value} {σ σ' : St} (i o : Nat), Rel F G σ tmps w → leafsR (stab F G.c w) G σ w ls vs → absD σ ts ls = some (x, σ') →
    ∃ M : List (Nat × (Nat × Nat)), Rel F G σ' tmps w ∧ Keep F G σ w G σ' w ∧ Gone σ σ' M ∧ ∀ S c' w' a P, Lies G w M P c' w' → repLs (regRow w' S c' a true) ts P i o x vs
  | [], [], x, vs, σ, σ', i, o, h, hl, ha => by
    simp only [absD, Option.some.injEq] at ha
    obtain ⟨_, rfl⟩ := Prod.mk.inj ha
    simp only [leafsR] at hl
    exact ⟨[], h, Keep.refl _ _ _ _, Gone.refl, fun S c' w' a P _ => by simpa [repLs] using hl⟩
  | [], _ :: _, x, vs, σ, σ', i, o, h, hl, ha => by simp [absD] at ha
  | .int _ :: _, [], x, vs, σ, σ', i, o, h, hl, ha | .bool :: _, [], x, vs, σ, σ', i, o, h, hl, ha | .str :: _, [], x, vs, σ, σ', i, o, h, hl, ha | .list _ _ :: _, [], x, vs, σ, σ', i, o, h, hl, ha => by simp [absD] at ha
  | .list e els :: ts, l :: ls, x, vs, σ, σ', i, o, h, hl, ha => by
    simp only [leafsR] at hl
    obtain ⟨v, vs', rfl, h1, h2⟩ := hl
    cases l with
    | nil =>
      simp only [absD, Option.map_eq_some_iff] at ha
      obtain ⟨⟨x', σ1⟩, ha, hx⟩ := ha
      obtain ⟨rfl, rfl⟩ := Prod.mk.inj hx
      obtain ⟨M, hR, k, hg, hrep⟩ := absD_ok i (o + 1) h h2 ha
      refine ⟨M, hR, k, hg, fun S c' w' a P hL => rep_cons (t := .list e els) (a := ([] : List (dens els))) ?_ (hrep S c' w' a P hL)⟩
      simp only [leafR] at h1
      subst h1
      refine nil_rep fun p e sz => ?_
      unfold regRow
      rw [if_pos (by simp)]
      exact .inl ⟨rfl, none, rfl⟩
    | reg r =>
      simp only [absD, Option.bind_eq_some_iff] at ha
      obtain ⟨g, hg, ha0⟩ := ha
      obtain ⟨hc, ha1⟩ := bif_split ha0
      clear ha0
      simp only [Bool.and_eq_true, Bool.not_eq_true'] at hc
      obtain ⟨⟨⟨hf, happ⟩, hn⟩, hdd⟩ := hc
      split at ha1
      · next hq =>
        simp only [Option.map_eq_some_iff] at ha1
        obtain ⟨⟨x', σ1⟩, ha, hx⟩ := ha1
        obtain ⟨rfl, rfl⟩ := Prod.mk.inj hx
        obtain ⟨hR1, k1⟩ := h.kill r (reg?_some hg)
        obtain ⟨M, hR, k, hgn, hrep⟩ := absD_ok i (o + 1) hR1 (leafsR_keep k1 h2) ha
        refine ⟨[(r, (i, o))] ++ M, hR, k1.trans k, (Gone.kill (by rw [hg]; rfl)).trans hgn, fun S c' w' a P hL => rep_cons (t := .list e els) ?_ (hrep S c' w' a P fun p hp => hL p (List.mem_append_right _ hp))⟩
        simp only [leafR] at h1
        rw [h1.2.1]
        have := own_moved (w' := w') (S := S) (a := a) h hg hf (fun _ => happ) hn hdd (q := (i, o) :: P) (c' := c') fun b l hb => hL (r, (i, o)) (by simp) b l hb
        have hq2 : Nat.beq e g.e = true ∧ L.beqs g.ls els = true := Bool.and_eq_true _ _ ▸ hq
        have e1 := beq_nat hq2.1
        subst e1
        exact castRow_rep hq2.2 this
      · cases ha1
    | _ => simp [absD] at ha
  | .int k :: ts, l :: ls, x, vs, σ, σ', i, o, h, hl, ha | .bool :: ts, l :: ls, x, vs, σ, σ', i, o, h, hl, ha | .str :: ts, l :: ls, x, vs, σ, σ', i, o, h, hl, ha => by
    simp only [leafsR] at hl
    obtain ⟨v, vs', rfl, h1, h2⟩ := hl
    simp only [absD, Option.bind_eq_some_iff, Option.map_eq_some_iff] at ha
    obtain ⟨y, hy, ⟨x', σ1⟩, ha, hx⟩ := ha
    obtain ⟨rfl, rfl⟩ := Prod.mk.inj hx
    obtain ⟨M, hR, k', hg, hrep⟩ := absD_ok i (o + 1) h h2 ha
    refine ⟨M, hR, k', hg, fun S c' w' a P hL => rep_cons ?_ (hrep S c' w' a P hL)⟩
    exact repL_flat rfl (as_now h h1 hy)
termination_by structural ts => ts

def placeC (c : Nat → Option Col) (M : List (Nat × (Nat × Nat))) (P : Col) : Nat → Option Col := moveC c fun r => (look M r).map fun q => fun l => l ++ q :: P
theorem look_mem3 {α : Type} : ∀ {l : List (Nat × α)} {p : Nat × α}, l.Pairwise (fun p q => p.1 ≠ q.1) → p ∈ l → look l p.1 = some p.2
  | q :: l, p, h, hp => by
    rw [List.pairwise_cons] at h
    obtain ⟨k, v⟩ := q
    rw [look_cons]
    rcases List.mem_cons.1 hp with rfl | hp
    · rw [if_pos rfl]
    · rw [if_neg (h.1 p hp)]
      exact look_mem3 h.2 hp
theorem look_in3 {α : Type} : ∀ {l : List (Nat × α)} {r : Nat} {q : α}, look l r = some q → (r, q) ∈ l
  | [], r, q, h => by simp [look] at h
  | (k, v) :: l, r, q, h => by
    rw [look_cons] at h
    split at h
    · next e => subst e; injection h with h; subst h; simp
    · exact List.mem_cons_of_mem _ (look_in3 h)
theorem placeC_hit {c : Nat → Option Col} {M : List (Nat × (Nat × Nat))} {P : Col} (ho : M.Pairwise fun p q => p.1 ≠ q.1) {p : Nat × (Nat × Nat)} (hp : p ∈ M) {b : Nat} {l : Col} (hb : c b = some (l ++ [(p.1, 0)])) : placeC c M P b = some (l ++ p.2 :: P) :=
  moveC_hit (f := fun l => l ++ p.2 :: P) hb (by rw [look_mem3 ho hp]; rfl)
theorem placeC_or {c : Nat → Option Col} {M : List (Nat × (Nat × Nat))} {P : Col} (b : Nat) : placeC c M P b = c b ∨ ∃ p ∈ M, ∃ l, c b = some (l ++ [(p.1, 0)]) := by
  rcases moveC_or (c := c) (M := fun r => (look M r).map fun q => fun l => l ++ q :: P) b with h | ⟨r, l, h, hm⟩
  · exact .inl h
  · cases hl : look M r with
    | none => rw [hl] at hm; cases hm
    | some q => exact .inr ⟨(r, q), look_in3 hl, l, h⟩
theorem placeC_ne {c : Nat → Option Col} {M : List (Nat × (Nat × Nat))} {P : Col} {b : Nat} (h : placeC c M P b ≠ none) : c b ≠ none := moveC_ne h
theorem growD_place (h : Rel F G σ' tmps w) {M : List (Nat × (Nat × Nat))} (hg : ∀ p ∈ M, look σ'.regs p.1 = some none) (P : Col) : GrowD F G σ' w (placeC G.c M P) w where
  os := rfl
  tape := rfl
  output := rfl
  size := Nat.le_refl _
  old b hb := by
    rcases placeC_or (c := G.c) (M := M) (P := P) b with e | ⟨p, hp, l, e⟩
    · exact .inl ⟨rfl, e⟩
    · exact .inr ⟨p.1, l, e, hg p hp⟩
  c2 b hb := h.col b (placeC_ne hb)
end
end Go.Ev
end

section
/- The small machine is true to the model: rows that own what their elements' slices hold, second part: they are made and written. -/
set_option linter.unusedVariables false
namespace Go.Ev
open Go.RowKit

section
variable {P : Program} {E : Env} {F : Fm} {G G' : Gh} {σ σ' : St} {w w' : World} {a : Act} {o : Oper} {tmps : Array Value}

theorem zeroB_gen {R : Rw} (hR : ∀ p e sz, R p e sz 0 (.slice none 0 0) []) : ∀ {ls : List L} {vs : List Value} {p : Col} {i o : Nat}, zeroB ls vs = true → repLs R ls p i o (dflts ls) vs
  | [], [], _, _, _, _ => by simp [repLs]
  | t :: ts, v :: vs, p, i, o, h => by
    have key : zeroB ts vs = true ∧ repL R t ((i, o) :: p) t.dflt v := by
      unfold zeroB at h
      split at h
      · next h1 h2 => cases h1
      · next k ls k' vs' h1 h2 =>
        injection h1 with h1 h1'; injection h2 with h2 h2'
        subst h1; subst h1'; subst h2; subst h2'
        simp only [Bool.and_eq_true] at h
        have := kEq_eq h.1
        subst this
        exact ⟨h.2, by simp [repL, L.dflt]⟩
      · next ls vs' h1 h2 =>
        injection h1 with h1 h1'; injection h2 with h2 h2'
        subst h1; subst h1'; subst h2; subst h2'
        exact ⟨h, by simp [repL, L.dflt]⟩
      · next ls vs' h1 h2 =>
        injection h1 with h1 h1'; injection h2 with h2 h2'
        subst h1; subst h1'; subst h2; subst h2'
        exact ⟨h, by simp [repL, L.dflt]; rfl⟩
      · next e ls0 ls vs' h1 h2 =>
        injection h1 with h1 h1'; injection h2 with h2 h2'
        subst h1; subst h1'; subst h2; subst h2'
        exact ⟨h, nil_rep hR⟩
      · cases h
    exact repLs_cons.2 ⟨v, vs, rfl, by simp only [dflts, hd_mk]; exact key.2, by simp only [dflts, tl_mk]; exact zeroB_gen hR key.1⟩
  | [], _ :: _, _, _, _, h => by simp [zeroB] at h
  | _ :: _, [], _, _, _, h => by simp [zeroB] at h
theorem own_nil {S : Nat → Prop} {c : Nat → Option Col} {ap : Bool} (p : Col) (e : TypeId) (sz : Nat) : regRow w S c ap true p e sz 0 (.slice none 0 0) [] := by
  unfold regRow
  rw [if_pos (by simp)]
  exact .inl ⟨rfl, none, rfl⟩
theorem regRow_one {S : Nat → Prop} {c : Nat → Option Col} {ap dp : Bool} : ∀ p e sz n v cs, regRow w S c ap dp p e sz n v cs → v.oneCell' = true := by
  intro p e sz n v cs hh
  unfold regRow at hh
  split at hh
  · exact ownRow_one _ _ _ _ _ _ hh
  · exact roRow_one _ _ _ _ _ _ hh
theorem deepRow {S : Nat → Prop} {c : Nat → Option Col} {ap : Bool} {p : Col} {e : TypeId} {sz n : Nat} {v : Value} {cs : List Value} : regRow w S c ap true p e sz n v cs ↔ ownRow w c ap p e sz n v cs := by
  unfold regRow
  rw [if_pos (by simp)]

theorem cut_segR {R : Rw} {ls : List L} {xs : List (dens ls)} {p : Col} {cur : List Value} {i : Nat} {x : dens ls} (hx : xs[i]? = some x) : (((cur.take (xs.length * ls.length)).drop (i * ls.length)).take ls.length) = ((cur.drop (i * ls.length)).take ls.length) := by
  have hx' := (List.getElem?_eq_some_iff.1 hx).1
  rw [List.drop_take, List.take_take]
  congr 1
  have : (i + 1) * ls.length ≤ xs.length * ls.length := Nat.mul_le_mul_right _ hx'
  rw [Nat.add_mul] at this
  omega
theorem row_in {S : Nat → Prop} {c : Nat → Option Col} {p : Col} {e : TypeId} {ls : List L} {xs : List (dens ls)} {g n cap : Nat} {cur : Array Value} (hn : xs.length = n) (hc : c g = some p) (hh : w.heap[g]? = some (.cells cur e (0, 0))) (h1 : n ≤ cap) (h2 : cap ≤ maxLen) (h3 : cur.size = cap * ls.length)
    (hel : ∀ i x, xs[i]? = some x → repLs (regRow w S c true true) ls p i 0 x ((cur.toList.drop (i * ls.length)).take ls.length)) : repL (regRow w S c true true) (.list e ls) p xs (.slice (some ⟨g, 0, none⟩) n cap) := by
  subst hn
  simp only [repL]
  refine ⟨cur.toList.take (xs.length * ls.length), deepRow.2 (.inr ⟨g, cap, cur, (0, 0), rfl, hc, hh, h1, h2, h3, rfl, fun _ => rfl, .inl rfl⟩), ?_, fun i x hx => ?_⟩
  · have hcl : cur.toList.length = cap * ls.length := by simpa using h3
    have hx : List.length (α := dens ls) xs * ls.length ≤ cap * ls.length := Nat.mul_le_mul_right ls.length h1
    rw [List.length_take, hcl]
    exact Nat.min_eq_left hx
  · rw [cut_segR (R := regRow w S c true true) (xs := xs) (p := p) hx]
    exact hel i x hx

theorem slot_end {d : Option Nat} {id : Nat} {v : Value} (hR : Rel F G σ a.tmps w) (hl : leafR (stab F G.c w) G σ w (.reg id) v) : Next F (σ.setSlot d (.cell (.reg id))) a d v w := ⟨G, by rw [put_tmps]; exact hR.setSlot (Like.refl _) (by simp only [slotR]; exact hl)⟩

theorem makeSliceD_ok (hE : EnvOk P E) (h : Rel F G σ a.tmps w) {t : TypeId} {n c : Operand} (ho : o.op = .makeSlice t n c) {id : Nat} {ps : List Prop} (hs : stepDeep E σ id o.dst (.makeSlice t n c) = some (ps, σ')) (hp : ∀ p ∈ ps, p) : OpOk P o a w (Next F σ' a o.dst) := by
  simp only [stepDeep] at hs
  obtain ⟨i, hi, hs⟩ := Option.bind_eq_some_iff.1 hs
  split at hs
  · next e ls b hk =>
    cases hfl : flat ls with
    | true => rw [hfl] at hs; cases hs
    | false =>
    rw [hfl] at hs
    simp only [cond_false] at hs
    obtain ⟨⟨k, m⟩, hm, hs⟩ := Option.bind_eq_some_iff.1 hs
    obtain ⟨⟨k', m'⟩, hm', hs⟩ := Option.bind_eq_some_iff.1 hs
    obtain ⟨hkk, hs⟩ := bif_some hs
    obtain ⟨σ1, hnew, hs⟩ := Option.map_eq_some_iff.1 hs
    obtain ⟨rfl, rfl⟩ := Prod.mk.inj hs
    have p1 : m = m' := hp _ (by simp)
    have p2 : 0 ≤ m := hp _ (by simp)
    have p3 : m * (b : Int) ≤ 140737488355328 := hp _ (by simp)
    subst p1
    obtain ⟨hu, _, hb, hne, ie, z, hie, hsz, hby, hz, hzb⟩ := ti_sl (hE.ti hi) hk
    obtain ⟨N, rfl⟩ : ∃ N : Nat, m = (N : Int) := ⟨m.toNat, by omega⟩
    have hNb : N * b ≤ 140737488355328 := by
      have : ((N * b : Nat) : Int) ≤ 140737488355328 := by rw [Int.natCast_mul]; exact p3
      omega
    have hN : N ≤ 140737488355328 := Nat.le_trans (Nat.le_mul_of_pos_right N hb) hNb
    have hmax : N ≤ maxLen := by simp only [maxLen]; omega
    have hr := run_make (P := P) w t e ie z hu hie hz k k' (N : Int) (N : Int) p2 (Int.le_refl _) (by rw [hby, Int.mul_comm]; omega) (by omega)
    have hzl : z.cells.size = ls.length := by
      have := repLs_length (zeroB_ok (S := fun _ => True) (w := w) (p := []) (i := 0) (o := 0) hzb)
      simpa using this
    have hlp : 0 < ls.length := List.length_pos_iff.2 hne
    simp only [Int.toNat_natCast] at hr hnew
    have hseg : ∀ i, i < N → ((madeCells z.cells (N * ie.size)).toList.drop (i * ls.length)).take ls.length = z.cells.toList := by
      intro i hi'
      apply List.ext_getElem?
      intro j
      rw [List.getElem?_take]
      split
      · next hj =>
        rw [List.getElem?_drop, Array.getElem?_toList, Array.getElem?_toList]
        have hlt : i * ls.length + j < N * ie.size := by
          rw [hsz]
          have := Nat.mul_le_mul_right ls.length hi'
          rw [Nat.succ_mul] at this
          omega
        simp only [madeCells, Array.getElem?_map, Array.getElem?_range, hlt, if_true, Option.map_some]
        have hmod : (i * ls.length + j) % z.cells.size = j := by
          rw [hzl, Nat.mul_comm, Nat.mul_add_mod]
          exact Nat.mod_eq_of_lt hj
        rw [hmod]
        have hj' : j < z.cells.size := by omega
        simp [hj']
      · next hj => rw [List.getElem?_eq_none (by simp; omega)]
    have hg : GrowD F G σ w (upd G.c w.heap.size (some [(id, 0)])) (w.alloc (.cells (madeCells z.cells (N * ie.size)) e)) := {
      os := rfl, tape := rfl, output := rfl
      size := by simp
      old := fun b hb => .inl ⟨heap_alloc_old w _ b hb, upd_ne _ _ (by omega)⟩
      c2 := fun b hb => by
        by_cases e : b = w.heap.size
        · subst e; exact ⟨.inl h.below.size, by simp⟩
        · rw [upd_ne _ _ e] at hb
          have := h.col b hb
          exact ⟨this.1, by simp; omega⟩ }
    obtain ⟨hR1, k1⟩ := h.growD hg
    obtain ⟨hR2, _, hl⟩ := hR1.claim (v := .slice (some ⟨w.heap.size, 0, none⟩) N N) hnew (row_in (g := w.heap.size) (by simp) (upd_same _ _ _) (heap_alloc_new w _) (Nat.le_refl _) hmax (by rw [size_madeCells, hsz]) fun i x hx => by
      have hi' : i < N := by simpa using (List.getElem?_eq_some_iff.1 hx).1
      have hxe : x = dflts ls := by
        have := (List.getElem?_eq_some_iff.1 hx).2
        simpa using this.symm
      subst hxe
      rw [hseg i hi']
      exact zeroB_gen (fun p e sz => own_nil p e sz) hzb)
    refine opOk_value (w' := w.alloc (.cells (madeCells z.cells (N * ie.size)) e)) (v := .slice (some ⟨w.heap.size, 0, none⟩) N N) ?_ (slot_end hR2 hl)
    simp [execOp, ho, int_val h hm, int_val h hm', hr]
  · cases hs

theorem as_sure {t : L} {l : Leaf} {x : t.den} (h : l.as σ t = some x) : noJunk [l] = true := by
  cases l with
  | junk => unfold Leaf.as at h; simp at h
  | _ => simp [noJunk]
theorem absD_sure : ∀ {ts : List L} {ls : List Leaf} {σ σ' : St} {x : dens ts}, absD σ ts ls = some (x, σ') → noJunk ls = true ∧ ls.length = ts.length
  | [], [], _, _, _, _ => ⟨rfl, rfl⟩
  | [], _ :: _, _, _, _, h => by simp [absD] at h
  | .int _ :: _, [], _, _, _, h | .bool :: _, [], _, _, _, h | .str :: _, [], _, _, _, h | .list _ _ :: _, [], _, _, _, h => by simp [absD] at h
  | .list e els :: ts, l :: ls, σ, σ', x, h => by
    cases l with
    | nil =>
      simp only [absD, Option.map_eq_some_iff] at h
      obtain ⟨⟨x', σ1⟩, h, _⟩ := h
      obtain ⟨h1, h2⟩ := absD_sure h
      exact ⟨noJunk_both (by simp [noJunk]) h1, by simp [h2]⟩
    | reg r =>
      simp only [absD, Option.bind_eq_some_iff] at h
      obtain ⟨g, hg, h⟩ := h
      obtain ⟨_, h⟩ := bif_split h
      split at h
      · simp only [Option.map_eq_some_iff] at h
        obtain ⟨⟨x', σ1⟩, h, _⟩ := h
        obtain ⟨h1, h2⟩ := absD_sure h
        exact ⟨noJunk_both (by simp [noJunk]) h1, by simp [h2]⟩
      · cases h
    | _ => simp [absD] at h
  | .int k :: ts, l :: ls, σ, σ', x, h | .bool :: ts, l :: ls, σ, σ', x, h | .str :: ts, l :: ls, σ, σ', x, h => by
    simp only [absD, Option.bind_eq_some_iff, Option.map_eq_some_iff] at h
    obtain ⟨y, hy, ⟨x', σ1⟩, h, _⟩ := h
    obtain ⟨h1, h2⟩ := absD_sure h
    exact ⟨noJunk_both (as_sure hy) h1, by simp [h2]⟩
termination_by structural ts => ts

theorem absRowsD_ok {ls : List L} (hne : ls ≠ []) : ∀ {ss : List Slot} {vs : List Value} {xs : List (dens ls)} {σ σ' : St} (i0 : Nat), Rel F G σ tmps w → slotsR (stab F G.c w) G σ w ss vs → absRowsD σ ls (mp Slot.leafs ss) = some (xs, σ') →
    ∃ M : List (Nat × (Nat × Nat)), Rel F G σ' tmps w ∧ Keep F G σ w G σ' w ∧ Gone σ σ' M ∧ vs.length = xs.length ∧ (∀ v ∈ vs, v.cells.size = ls.length ∧ ∀ u ∈ v.cells.toList, u.oneCell' = true) ∧
      ∀ S c' w' ap Q, Lies G w M Q c' w' → ∀ i x, xs[i]? = some x → repLs (regRow w' S c' ap true) ls Q (i0 + i) 0 x (((vs.flatMap fun v => v.cells.toList).drop (i * ls.length)).take ls.length)
  | [], vs, xs, σ, σ', i0, h, hs, ha => by
    simp only [slotsR] at hs
    subst hs
    simp only [mp, absRowsD, Option.some.injEq] at ha
    obtain ⟨rfl, rfl⟩ := Prod.mk.inj ha
    exact ⟨[], h, Keep.refl _ _ _ _, Gone.refl, rfl, by simp, fun S c' w' ap Q _ i x hx => by simp at hx⟩
  | s :: ss, vs, xs, σ, σ', i0, h, hs, ha => by
    simp only [slotsR] at hs
    obtain ⟨v, vs', rfl, h1, h2⟩ := hs
    simp only [mp, absRowsD, Option.bind_eq_some_iff, Option.map_eq_some_iff] at ha
    obtain ⟨⟨x, σ1⟩, hab, ⟨xs', σ2⟩, hrest, hx⟩ := ha
    simp only [Prod.mk.injEq] at hx
    obtain ⟨rfl, rfl⟩ := hx
    obtain ⟨hj, hl⟩ := absD_sure hab
    have hsn : s.leafs ≠ [] := fun e => by
      rw [e] at hl
      exact hne (List.eq_nil_of_length_eq_zero hl.symm)
    obtain ⟨c1, c2⟩ := slot_cells h1 hj hsn
    obtain ⟨M1, hR1, k1, g1, r1⟩ := absD_ok i0 0 h c1 hab
    obtain ⟨M2, hR2, k2, g2, r2, r3, r4⟩ := absRowsD_ok hne (i0 + 1) hR1 (slotsR_keep k1 h2) hrest
    have hvl : v.cells.toList.length = ls.length := by rw [leafsR_length c1, hl]
    refine ⟨M1 ++ M2, hR2, k1.trans k2, g1.trans g2, by simp [r2], fun u hu => ?_, fun S c' w' ap Q hL i y hy => ?_⟩
    · rcases List.mem_cons.1 hu with rfl | hu
      · exact ⟨by simpa using hvl, c2⟩
      · exact r3 u hu
    · rw [List.flatMap_cons]
      cases i with
      | zero =>
        have : x = y := by simpa using hy
        subst this
        rw [Nat.zero_mul, List.drop_zero, List.take_append_of_le_length (by omega), List.take_of_length_le (by omega)]
        exact r1 S c' w' ap Q fun p hp => hL p (List.mem_append_left _ hp)
      | succ i =>
        have := r4 S c' w' ap Q (fun p hp => hL p (List.mem_append_right _ hp)) i y (by simpa using hy)
        have e : List.drop ((i + 1) * ls.length) (v.cells.toList ++ vs'.flatMap fun v => v.cells.toList) = List.drop (i * ls.length) (vs'.flatMap fun v => v.cells.toList) := by
          rw [Nat.succ_mul, List.drop_append, List.drop_of_length_le (by omega), List.nil_append]
          congr 1
          omega
        rw [e]
        rw [show i0 + (i + 1) = i0 + 1 + i by omega]
        exact this

theorem growD_new (h : Rel F G σ' tmps w) {M : List (Nat × (Nat × Nat))} (hg : ∀ p ∈ M, look σ'.regs p.1 = some none) (Q : Col) (obj : Obj) : GrowD F G σ' w (upd (placeC G.c M Q) w.heap.size (some Q)) (w.alloc obj) where
  os := rfl
  tape := rfl
  output := rfl
  size := by simp
  old b hb := by
    rw [upd_ne _ _ (by omega)]
    rcases placeC_or (c := G.c) (M := M) (P := Q) b with e | ⟨p, hp, l, e⟩
    · exact .inl ⟨heap_alloc_old w _ b hb, e⟩
    · exact .inr ⟨p.1, l, e, hg p hp⟩
  c2 b hb := by
    by_cases e : b = w.heap.size
    · subst e; exact ⟨.inl h.below.size, by simp⟩
    · rw [upd_ne _ _ e] at hb
      have := h.col b (placeC_ne hb)
      exact ⟨this.1, by simp; omega⟩
theorem lies_new (h : Rel F G σ' tmps w) {M : List (Nat × (Nat × Nat))} (ho : M.Pairwise fun p q => p.1 ≠ q.1) (Q : Col) (obj : Obj) : Lies G w M Q (upd (placeC G.c M Q) w.heap.size (some Q)) (w.alloc obj) := fun p hp b l hb => by
  have hlt := col_lt h hb
  exact ⟨by rw [upd_ne _ _ (by omega)]; exact placeC_hit ho hp hb, heap_alloc_old w _ b hlt⟩

theorem buildSliceD_ok (hE : EnvOk P E) (h : Rel F G σ a.tmps w) {t : TypeId} {n : Nat} {parts : Array (Nat × Operand)} (ho : o.op = .buildSlice t n parts) {id : Nat} {ps : List Prop} (hs : stepDeep E σ id o.dst (.buildSlice t n parts) = some (ps, σ')) : OpOk P o a w (Next F σ' a o.dst) := by
  simp only [stepDeep] at hs
  obtain ⟨i, hi, hs⟩ := Option.bind_eq_some_iff.1 hs
  split at hs
  · next e ls b hk =>
    cases hfl : flat ls with
    | true => rw [hfl] at hs; cases hs
    | false =>
    rw [hfl] at hs
    simp only [cond_false] at hs
    obtain ⟨hc, hs⟩ := bif_some hs
    simp only [Bool.and_eq_true] at hc
    obtain ⟨⟨xs, σ1⟩, hab, hs⟩ := Option.bind_eq_some_iff.1 hs
    obtain ⟨σ2, hnew, hs⟩ := Option.map_eq_some_iff.1 hs
    obtain ⟨rfl, rfl⟩ := Prod.mk.inj hs
    obtain ⟨hu, _, hb, hne, ie, z, hie, hsz, hby, hz, hzb⟩ := ti_sl (hE.ti hi) hk
    have hlp : 0 < ls.length := List.length_pos_iff.2 hne
    have hab' : absRowsD σ ls (mp Slot.leafs (mp (fun p => σ.op p.2) parts.toList)) = some (xs, σ1) := by
      rw [mp_mp]; exact hab
    obtain ⟨M, hR1, k1, hgone, hlen, hcells, hel⟩ := absRowsD_ok hne 0 h (ops_ok h parts.toList) hab'
    obtain ⟨hzip, hlen2⟩ := inOrder_zip a.eval hc.1
    have hle : n * ls.length ≤ 16777216 := Nat.le_of_ble_eq_true hc.2
    have hxn : xs.length = n := by rw [← hlen, List.length_map]; omega
    have hparts : (parts.map fun (p : Nat × Operand) => (p.1, a.eval p.2)).toList = (((parts.toList.map fun p => a.eval p.2).zipIdx 0).map fun x => (x.2, x.1)) := by
      rw [Array.toList_map]; exact hzip
    by_cases hn : n = 0
    · subst hn
      have hx0 : xs = [] := List.eq_nil_of_length_eq_zero hxn
      subst hx0
      have hp0 : parts.toList = [] := List.eq_nil_of_length_eq_zero (by omega)
      have hp0' : parts = #[] := by cases parts; simp_all
      subst hp0'
      obtain ⟨hR2, k2⟩ := hR1.growD (growD_new hR1 (fun p hp => (hgone.was p hp).2) [(id, 0)] (.cells #[] e))
      obtain ⟨hR3, _, hl⟩ := hR2.claim (v := .slice (some ⟨w.heap.size, 0, none⟩) 0 0) hnew (by
        simp only [repL]
        exact ⟨[], deepRow.2 (.inl ⟨rfl, _, rfl⟩), by simp, fun i x hx => by simp [gt] at hx⟩)
      refine opOk_value (w' := w.alloc (.cells #[] e)) (v := .slice (some ⟨w.heap.size, 0, none⟩) 0 0) ?_ (slot_end hR3 hl)
      simp [execOp, ho, Instr.buildSlice, run_underlying hu, sizeOf, typeInfo, hie, Instr.fill, newRow, show Array.range 0 = #[] from rfl]
    · have hrun := run_buildSlice (P := P) w t e n (parts.map fun (p : Nat × Operand) => (p.1, a.eval p.2)) (((parts.toList.map fun p => a.eval p.2).flatMap fun v => v.cells.toList).toArray) ie z hu hie hz (by rw [hsz]; omega)
        (by rw [hsz]; have := Nat.mul_pos (Nat.pos_of_ne_zero hn) hlp; omega) (by
          rw [hparts, hsz]
          refine Great.fill_whole hlp _ _ (fun v hv => (hcells v hv).1) ?_
          rw [List.length_map]
          simp [← hlen2])
      have hflat : ∀ (vs : List Value), (∀ v ∈ vs, v.cells.size = ls.length ∧ ∀ u ∈ v.cells.toList, u.oneCell' = true) → (vs.flatMap fun v => v.cells.toList).length = vs.length * ls.length := by
        intro vs hvs
        induction vs with
        | nil => simp
        | cons v vs ih =>
          rw [List.flatMap_cons, List.length_append, ih fun u hu => hvs u (List.mem_cons_of_mem _ hu), Array.length_toList, (hvs v List.mem_cons_self).1, List.length_cons, Nat.succ_mul]
          omega
      have hsize : ((parts.toList.map fun p => a.eval p.2).flatMap fun v => v.cells.toList).length = xs.length * ls.length := by
        rw [hflat _ hcells, hlen]
      have hmax : n ≤ maxLen := by
        have := Nat.le_mul_of_pos_right n hlp
        simp only [maxLen]
        omega
      obtain ⟨hR2, k2⟩ := hR1.growD (growD_new hR1 (fun p hp => (hgone.was p hp).2) [(id, 0)] (.cells ((parts.toList.map fun p => a.eval p.2).flatMap fun v => v.cells.toList).toArray e))
      obtain ⟨hR3, _, hl⟩ := hR2.claim (v := .slice (some ⟨w.heap.size, 0, none⟩) n n) hnew (row_in (g := w.heap.size) hxn (upd_same _ _ _) (heap_alloc_new w _) (Nat.le_refl _) hmax (by rw [List.size_toArray, hsize, hxn]) fun i x hx => by
        have := hel (stab F (upd (placeC G.c M [(id, 0)]) w.heap.size (some [(id, 0)])) (w.alloc (.cells ((parts.toList.map fun p => a.eval p.2).flatMap fun v => v.cells.toList).toArray e))) _ _ true [(id, 0)] (lies_new hR1 hgone.once [(id, 0)] (.cells ((parts.toList.map fun p => a.eval p.2).flatMap fun v => v.cells.toList).toArray e)) i x hx
        rw [Nat.zero_add] at this
        exact this)
      refine opOk_value (w' := w.alloc (.cells ((parts.toList.map fun p => a.eval p.2).flatMap fun v => v.cells.toList).toArray e)) (v := .slice (some ⟨w.heap.size, 0, none⟩) n n) ?_ (slot_end hR3 hl)
      simp [execOp, ho, hrun]
  · cases hs

theorem dset_repD {R : Rw} {v : Value} {f : ∀ t : L, Option t.den} : ∀ {ls : List L} {x x' : dens ls} {cs : List Value} {p : Col} {i o j : Nat}, repLs R ls p i o x cs → dset ls x j f = some x' →
    (∀ t a, f t = some a → repL R t ((i, o + j) :: p) a v) → repLs R ls p i o x' (cs.set j v)
  | [], _, _, _, _, _, _, _, _, hd, _ => by simp [dset] at hd
  | t :: ts, x, x', cs, p, i, o, 0, h, hd', hf => by
    obtain ⟨u, cs', rfl, h1, h2⟩ := repLs_cons.1 h
    simp only [dset, Option.map_eq_some_iff] at hd'
    obtain ⟨a, ha, rfl⟩ := hd'
    exact repLs_cons.2 ⟨v, cs', rfl, by rw [hd_mk]; exact hf _ _ ha, by rw [tl_mk]; exact h2⟩
  | t :: ts, x, x', cs, p, i, o, j + 1, h, hd', hf => by
    obtain ⟨u, cs', rfl, h1, h2⟩ := repLs_cons.1 h
    simp only [dset, Option.map_eq_some_iff] at hd'
    obtain ⟨r, hr, rfl⟩ := hd'
    have h3 := dset_repD h2 hr fun t a ha => by
      rw [show o + 1 + j = o + (j + 1) by omega]
      exact hf t a ha
    exact rep_cons h1 h3
theorem beq_castD {R : Rw} {p : Col} {t u : L} (h : L.beq t u = true) {a : t.den} {v : Value} (hr : repL R t p a v) : repL R u p (L.beq_eq t u h ▸ a) v := by
  have e := L.beq_eq t u h
  subst e
  exact hr
theorem dsetAll_repD {R : Rw} {p : Col} {i : Nat} {ls : List L} : ∀ {ts : List L} {y : dens ts} {vs : List Value} {x x' : dens ls} {cs : List Value} {o : Nat}, repLs R ls p i 0 x cs → repLs R ts p i o y vs →
    dsetAll ls x o ts y = some x' → repLs R ls p i 0 x' (setAll cs o vs)
  | [], y, vs, x, x', cs, o, h, hv, hd' => by
    simp only [repLs] at hv
    subst hv
    simp only [dsetAll, Option.some.injEq] at hd'
    subst hd'
    exact h
  | t :: ts, y, vs, x, x', cs, o, h, hv, hd' => by
    obtain ⟨v, vs', rfl, h1, h2⟩ := repLs_cons.1 hv
    simp only [dsetAll, Option.bind_eq_some_iff] at hd'
    obtain ⟨x1, hx1, hd2⟩ := hd'
    simp only [setAll]
    refine dsetAll_repD (dset_repD (v := v) h hx1 fun u a ha => ?_) h2 hd2
    split at ha
    · next hh =>
      injection ha with ha
      subst ha
      rw [Nat.zero_add]
      exact beq_castD hh h1
    · cases ha
theorem setAll_take : ∀ (vs cs : List Value) (o n : Nat), o + vs.length ≤ n → (setAll cs o vs).take n = setAll (cs.take n) o vs
  | [], _, _, _, _ => rfl
  | v :: vs, cs, o, n, hn => by
    simp only [List.length_cons] at hn
    simp only [setAll]
    rw [setAll_take vs _ _ _ (by omega), List.take_set]
theorem isDeep_eq {g : Reg} (h : isDeep g = true) : g.deep = true ∧ g.frz = false ∧ noH g = true := by
  unfold isDeep at h
  simp only [Bool.and_eq_true, Bool.not_eq_true'] at h
  exact ⟨h.1.1, h.1.2, h.2⟩
theorem regR_deep (h : Rel F G σ tmps w) {r : Nat} {g : Reg} (hr : σ.reg? r = some g) (hd : isDeep g = true) : repL (regRow w (stab F G.c w) G.c g.app true) (.list g.e g.ls) [(r, 0)] g.xs (G.rv r) := by
  obtain ⟨h1, h2, h3⟩ := isDeep_eq hd
  have := h.regs r g hr
  rw [regR_whole (noH_nil h3), if_neg (by simp [h2]), h1] at this
  exact this
theorem inner_ne {c : Nat → Option Col} {b g0 r : Nat} {l : Col} {q : Nat × Nat} (hb : c b = some (l ++ q :: [(r, 0)])) (hg : c g0 = some [(r, 0)]) : b ≠ g0 := by
  rintro rfl
  rw [hg] at hb
  have := congrArg List.length (Option.some.inj hb)
  simp at this

theorem Rel.storeEltD (P : Program) (h : Rel F G σ tmps w) {r : Nat} {g : Reg} (hr : σ.reg? r = some g) (hdp : isDeep g = true) {i : Int} (h0 : 0 ≤ i) (h1 : i < (g.xs.length : Int)) {a : Addr} {m cap o : Nat} (hrv : G.rv r = .slice (some a) m cap)
    {ts : List L} {y : dens ts} {vs : List Value} {S' : Nat → Prop} (hy : repLs (regRow w S' G.c g.app true) ts [(r, 0)] i.toNat o y vs) (ho : o + vs.length ≤ g.ls.length) {x' : dens g.ls} (hd : dsetAll g.ls (rdAt g.xs i) o ts y = some x') :
    ∃ w', (storeCells (a.add (i.toNat * g.ls.length + o)) vs).run P w = .ok () w' ∧ Rel F G (σ.setReg r (some { g with xs := g.xs.set i.toNat x' })) tmps w' ∧ Keep F G σ w G (σ.setReg r (some { g with xs := g.xs.set i.toNat x' })) w' := by
  obtain ⟨hdeep, hf, hnh⟩ := isDeep_eq hdp
  have hreg := regR_deep h hr hdp
  simp only [repL] at hreg
  obtain ⟨cs, hrow, hlen, hel⟩ := hreg
  have hi : i.toNat < g.xs.length := by omega
  have hrow := deepRow.1 hrow
  obtain ⟨e0, _⟩ | ⟨g0, cap0, cur, fr, hv, hc, hh, b1, b2, b3, b4, b5, b6⟩ := hrow
  · have e0' : g.xs.length = 0 := e0
    omega
  · rw [hrv] at hv
    injection hv with hv1 hv2 hv3
    injection hv1 with hv1
    subst hv1
    have hb : (i.toNat + 1) * g.ls.length ≤ g.xs.length * g.ls.length := Nat.mul_le_mul_right _ hi
    have hcap : g.xs.length * g.ls.length ≤ cap0 * g.ls.length := Nat.mul_le_mul_right _ b1
    rw [Nat.add_mul] at hb
    have hvs : ∀ u ∈ vs, u.oneCell' = true := repLs_one regRow_one hy
    rw [addr_add]
    have b3' : cur.size = cap0 * g.ls.length := b3
    have b6' : fr.1 = fr.2 ∨ g.xs.length * g.ls.length ≤ fr.1 := b6
    obtain ⟨w', hrun, hoff, hh'⟩ := run_storeCells_any P g0 g.e fr (i.toNat * g.ls.length + o) vs 0 cur w hh (by omega) hvs (b6'.imp_right fun q => by omega)
    have k : Keep F G σ w G (σ.setReg r (some { g with xs := g.xs.set i.toNat x' })) w' := h.oneOff hc hoff (fun b' hb' => hb') (fun r' hr' => by
      refine ⟨by rw [setReg_look]; exact isSome_if hr', fun g' hg' => ?_⟩
      rw [setReg_reg?] at hg'
      split at hg'
      · next e => subst e; injection hg' with hg'; subst hg'; exact ⟨g, hr, rfl, by simp⟩
      · exact ⟨g', hg', rfl, rfl⟩)
    have hmap : ∀ {ls : List L} {S : Nat → Prop} {j o : Nat} {x : dens ls} {cs : List Value}, repLs (regRow w S G.c g.app true) ls [(r, 0)] j o x cs → repLs (regRow w' (stab F G.c w') G.c g.app true) ls [(r, 0)] j o x cs := fun hq =>
      repLs_map (fun l o e sz n v cs hq => deepRow.2 (own_mono (fun b hb => ⟨hb, hoff.heap b (inner_ne hb hc)⟩) (fun h => h) (deepRow.1 hq))) hq
    refine ⟨w', hrun, h.next k (fun b' hb' => by rw [hoff.size]; exact h.col b' hb') (fun b' c'' hc' => ?_) (fun r' g' hg => ?_) (fun i => .inl ⟨rfl, rfl⟩) h.nslots, k⟩
    · obtain ⟨t', cur', d1, d2, _⟩ := h.boxes b' c'' hc'
      refine .inl ⟨hc', rfl, hoff.heap _ fun e' => ?_⟩
      rw [e', hc] at d2
      simp at d2
    · rw [setReg_reg?] at hg
      by_cases e : r = r'
      · subst e
        rw [if_pos rfl] at hg
        injection hg with hg
        subst hg
        refine .inr ⟨holesIn_nil (noH_nil hnh), ?_⟩
        rw [regR_whole (g := { g with xs := g.xs.set i.toNat x' }) (noH_nil hnh)]
        simp only [hf, hdeep, Bool.false_eq_true, if_false, repL]
        refine ⟨setAll cs (i.toNat * g.ls.length + o) vs, deepRow.2 ?_, by rw [length_setAll, hlen]; simp, fun j x hx => ?_⟩
        · refine .inr ⟨g0, cap0, _, fr, by rw [hrv, hv2, hv3]; simp, hc, hh', by simpa using b1, b2, by simp [length_setAll]; exact b3', ?_, b5, by simpa using b6'⟩
          have b4' : cur.toList.take (g.xs.length * g.ls.length) = cs := b4
          rw [← b4']
          simp only [List.length_set, Nat.add_zero]
          exact setAll_take vs cur.toList _ _ (by omega)
        · have hx' : (g.xs.set i.toNat x')[j]? = some x := hx
          by_cases ej : i.toNat = j
          · subst ej
            rw [List.getElem?_set, if_pos rfl, if_pos hi] at hx'
            injection hx' with hx'
            subst hx'
            rw [setAll_seg (n := 0) vs cs o ho]
            exact dsetAll_repD (hmap (hel i.toNat (rdAt g.xs i) (rdAt_get h0 h1))) (hmap hy) hd
          · rw [List.getElem?_set, if_neg ej] at hx'
            rw [setAll_other ej vs cs o ho]
            exact hmap (hel j x hx')
      · rw [if_neg e] at hg
        refine .inl ⟨hg, .inr fun b' p' hb' hp => ⟨hb', hoff.heap b' fun e' => ?_⟩⟩
        obtain ⟨l, rfl⟩ := hp
        rw [e', hc] at hb'
        have := congrArg List.getLast? (Option.some.inj hb')
        simp at this
        exact e this

theorem storeD_ok (h : Rel F G σ tmps w) {r : Nat} {i : Int} {o' : Nat} {v : Value} (hl : leafR (stab F G.c w) G σ w (.elt r i o') v) {ls : List Leaf} {vs : List Value} (hv : leafsR (stab F G.c w) G σ w ls vs) (hz : vs ≠ []) (hs : storeD σ r i o' ls = some σ') :
    ∃ (ad : Addr) (w' : World) (G' : Gh), v = .pointer (some ad) ∧ (storeCells ad vs).run P w = .ok () w' ∧ Rel F G' σ' tmps w' ∧ Keep F G σ w G' σ' w' := by
  unfold storeD at hs
  obtain ⟨g0, hg0, hs⟩ := Option.bind_eq_some_iff.1 hs
  cases hd0 : isDeep g0 with
  | false => rw [hd0] at hs; cases hs
  | true =>
  rw [hd0] at hs
  simp only [Bool.not_true, cond_false, Option.bind_eq_some_iff] at hs
  obtain ⟨ts, hts, ⟨y, σ1⟩, hab, g, hg, hs⟩ := hs
  simp only at hg hs
  obtain ⟨hdp, hs⟩ := bif_some hs
  simp only [Option.map_eq_some_iff] at hs
  obtain ⟨x', hd, rfl⟩ := hs
  obtain ⟨M, hR1, k1, hgone, hy⟩ := absD_ok i.toNat o' h hv hab
  obtain ⟨hR2, k2⟩ := hR1.growD (growD_place hR1 (fun p hp => (hgone.was p hp).2) [(r, 0)])
  have k12 := k1.trans k2
  have hl2 := leafR_keep k12 hl
  simp only [leafR] at hl2
  obtain ⟨_, _, hl2⟩ := hl2
  obtain ⟨i0, i1, ad, n, cap, hrv, rfl⟩ := hl2 g hg
  have hlen : vs.length = ls.length := leafsR_length hv
  have hgg : g0 = g := by
    have := hgone.sub r g hg
    rw [hg0] at this
    exact Option.some.inj this
  subst hgg
  have hb : o' + vs.length ≤ g0.ls.length := by
    have := tkAs_len hts
    rw [dp_drop, List.length_drop] at this
    have : 0 < vs.length := List.length_pos_iff.2 hz
    omega
  have hy2 := hy (stab F G.c w) (placeC G.c M [(r, 0)]) w g0.app [(r, 0)] fun p hp b l hb => ⟨placeC_hit hgone.once hp hb, rfl⟩
  obtain ⟨w', hr, hR, k⟩ := hR2.storeEltD P hg hdp i0 i1 hrv hy2 hb hd
  exact ⟨_, w', _, rfl, hr, hR, k12.trans k⟩

theorem storeOpD_ok (hE : EnvOk P E) (h : Rel F G σ a.tmps w) {t : TypeId} {x y : Operand} (ho : o.op = .store t x y) {id : Nat} {ps : List Prop} (hs : stepDeep E σ id o.dst (.store t x y) = some (ps, σ')) : OpOk P o a w (Next F σ' a o.dst) := by
  simp only [stepDeep, Option.bind_eq_some_iff] at hs
  obtain ⟨i, hi, l, hl, hs⟩ := hs
  split at hs
  · next r j o' =>
    simp only [Option.bind_eq_some_iff, Option.map_eq_some_iff] at hs
    obtain ⟨ls, hex, ls', hsu, σ1, hst, hs⟩ := hs
    obtain ⟨_, rfl⟩ := Prod.mk.inj hs
    obtain ⟨rfl, hlen⟩ := exact_eq hex
    obtain ⟨rfl, hj, hne⟩ := sure_eq hsu
    obtain ⟨c1, c2⟩ := slot_cells (op_ok h y) hj hne
    obtain ⟨ad, w', G', hv, hr, hR, k⟩ := storeD_ok (P := P) h (one_val h hl) c1 (fun e => hne (by have := leafsR_length c1; rw [e] at this; exact List.eq_nil_of_length_eq_zero this.symm)) hst
    obtain ⟨ti, ht1, ht2, _⟩ := ti_agg (hE.ti hi)
    have hsz : (a.eval y).cells.size = ti.size := by
      have := leafsR_length c1
      rw [Array.length_toList] at this
      rw [this, hlen, ht2]
    refine opOk_skip (w' := w') ?_ ⟨G', by rw [put_tmps]; exact hR.setSlot (Like.refl _) (by simp [slotR, leafR])⟩
    simp [execOp, ho, hv, Instr.storeAt, Instr.sureAddr, storeVar, sizeOf, typeInfo, ht1, hsz, hr]
  · cases hs
end
end Go.Ev
end

section
/- The small machine is true to the model: calls that take rows over, and variables that they write. -/
set_option linter.unusedVariables false
namespace Go.Ev
open Go.RowKit

section
variable {P : Program} {E : Env} {F : Fm} {G G' : Gh} {σ σ' σ0 σ1 σ2 : St} {w w' : World} {a : Act} {tmps : Array Value}

theorem leafsR_junks {S : Nat → Prop} : ∀ {c : List Leaf} {vs : List Value}, vs.length = c.length → leafsR S G σ w (junks c) vs
  | [], vs, h => by
    have : vs = [] := List.eq_nil_of_length_eq_zero h
    subst this
    simp only [junks, mp, leafsR]
  | l :: c, [], h => by simp at h
  | l :: c, v :: vs, h => by
    have := @leafsR_junks S c vs (by simpa using h)
    unfold junks at this ⊢
    simp only [mp, leafsR, leafR]
    exact ⟨v, vs, rfl, trivial, this⟩
theorem Rel.setBoxAt (h : Rel F G σ tmps w) {b : Nat} (hb : (look σ.boxes b).isSome) {ls : List Leaf} {t : TypeId} {cur : Array Value} (h1 : w.heap[G.bb b]? = some (.cells cur t (0, 0))) (h2 : G.c (G.bb b) = some [(b, 1)])
    (h3 : leafsR (stab F G.c w) G σ w ls cur.toList) (h4 : ∀ u ∈ cur.toList, u.oneCell' = true) : Rel F G (σ.setBox b ls) tmps w ∧ Keep F G σ w G (σ.setBox b ls) w := by
  have k : Keep F G σ w G (σ.setBox b ls) w := {
    below := BelowO.refl _ _
    st := fun b hb => ⟨hb, rfl⟩
    bx := fun b' hb' => by rw [setBox_look]; exact ⟨isSome_if hb', rfl⟩
    rg := fun r hr => ⟨hr, rfl, fun g' hg' => ⟨g', hg', rfl, rfl⟩⟩ }
  refine ⟨h.next k h.col (fun b' c hc => ?_) (fun r g hg => .inl ⟨hg, .inr fun b p hb _ => ⟨hb, rfl⟩⟩) (fun i => .inl ⟨rfl, rfl⟩) h.nslots, k⟩
  rw [setBox_look] at hc
  split at hc
  · next e =>
    subst e
    injection hc with hc
    subst hc
    exact .inr ⟨t, cur, h1, h2, leafsR_keep k h3, h4⟩
  · exact .inl ⟨hc, rfl, rfl⟩
theorem moveAll_boxes {dp : Bool} : ∀ {ts : List L} {ls : List Leaf} {σ σ1 : St}, moveAll dp σ ts ls = some σ1 → σ1.boxes = σ.boxes ∧ σ1.slots = σ.slots
  | [], [], σ, σ1, h => by simp only [moveAll, Option.some.injEq] at h; subst h; exact ⟨rfl, rfl⟩
  | [], _ :: _, σ, σ1, h => by simp [moveAll] at h
  | t :: _, [], σ, σ1, h => by cases t <;> simp [moveAll] at h
  | .list e els :: ts, l :: ls, σ, σ1, h => by
    cases l with
    | nil => exact moveAll_boxes (by simpa only [moveAll] using h)
    | reg r =>
      simp only [moveAll] at h
      split at h
      · next g hg =>
        obtain ⟨_, h⟩ := bif_some h
        exact moveAll_boxes (σ := σ.setReg r none) h
      · cases h
    | _ => simp [moveAll] at h
  | .int _ :: ts, l :: ls, σ, σ1, h | .bool :: ts, l :: ls, σ, σ1, h | .str :: ts, l :: ls, σ, σ1, h => moveAll_boxes (ts := ts) (ls := ls) (by simpa only [moveAll] using h)
theorem asAll_length : ∀ {ts : List L} {ls : List Leaf} {x : dens ts}, asAll σ ts ls = some x → ts.length = ls.length
  | [], [], _, _ => rfl
  | [], _ :: _, _, h => by simp [asAll] at h
  | _ :: _, [], _, h => by simp [asAll] at h
  | t :: ts, l :: ls, x, h => by
    simp only [asAll, Option.bind_eq_some_iff, Option.map_eq_some_iff] at h
    obtain ⟨_, _, r, hr, _⟩ := h
    simp [asAll_length hr]
theorem outR_length {S : Nat → Prop} {col : Nat → Option Col} {sh dp : Bool} : ∀ {ts : List L} {x : dens ts} {j : Nat} {cs : List Value}, outR S col w sh dp j ts x cs → cs.length = ts.length
  | [], _, _, _, h => by simp only [outR] at h; subst h; rfl
  | .list _ _ :: ts, _, _, _, h | .int _ :: ts, _, _, _, h | .bool :: ts, _, _, _, h | .str :: ts, _, _, _, h => by
    simp only [outR] at h
    obtain ⟨v, cs', rfl, _, h2⟩ := h
    simp [outR_length h2]
theorem ptrBox_eq {s : Slot} {b : Nat} (h : ptrBox s = some b) : s = .cell (.box b 0) := by
  unfold ptrBox at h
  split at h
  · injection h with h
    rw [h]
  · cases h

theorem setBoxLike_eq {b : Nat} {ls : List Leaf} (h : setBoxLike σ b ls = some σ') : (∃ c, look σ.boxes b = some c ∧ c.length = ls.length) ∧ σ.setBox b ls = σ' := by
  unfold setBoxLike at h
  split at h
  · next c hc =>
    obtain ⟨hb, h⟩ := bif_some h
    exact ⟨⟨c, hc, beq_nat hb⟩, Option.some.inj h⟩
  · cases h

theorem qKill1_rel {dp : Bool} {p : PT} {s : Slot} (h0 : Rel F G σ0 tmps w) (h : Rel F G σ tmps w) (hb : ∀ b, (look σ0.boxes b).isSome → (look σ.boxes b).isSome) (hk : qKill1 dp σ0 p s σ = some σ1) : Rel F G σ1 tmps w ∧ Keep F G σ w G σ1 w := by
  unfold qKill1 at hk
  split at hk
  · next agg ts =>
    obtain ⟨ls, _, hm⟩ := Option.bind_eq_some_iff.1 hk
    exact moveAll_rel h hm
  · next ts =>
    obtain ⟨b, _, hk⟩ := Option.bind_eq_some_iff.1 hk
    obtain ⟨c, hc, hk⟩ := Option.bind_eq_some_iff.1 hk
    split at hk
    · cases hk
    · next l c =>
      obtain ⟨σ2, hm, hk⟩ := Option.bind_eq_some_iff.1 hk
      obtain ⟨_, rfl⟩ := setBoxLike_eq hk
      obtain ⟨hR, k⟩ := moveAll_rel h hm
      obtain ⟨t, cur, b1, b2, b3, b4⟩ := h0.boxes b _ hc
      obtain ⟨hR2, k2⟩ := hR.setBoxAt (ls := junks (l :: c)) (by rw [(moveAll_boxes hm).1]; exact hb b (by rw [hc]; rfl)) b1 b2 (leafsR_junks (leafsR_length b3)) b4
      exact ⟨hR2, k.trans k2⟩
  · simp only [Option.some.injEq] at hk
    subst hk
    exact ⟨h, Keep.refl _ _ _ _⟩
theorem qKill_rel {dp : Bool} (h0 : Rel F G σ0 tmps w) : ∀ {ps : List PT} {ss : List Slot} {σ σ1 : St}, Rel F G σ tmps w → (∀ b, (look σ0.boxes b).isSome → (look σ.boxes b).isSome) → qKill dp σ0 ps ss σ = some σ1 → Rel F G σ1 tmps w ∧ Keep F G σ w G σ1 w
  | [], [], σ, σ1, h, _, hk => by simp only [qKill, Option.some.injEq] at hk; subst hk; exact ⟨h, Keep.refl _ _ _ _⟩
  | [], _ :: _, σ, σ1, h, _, hk => by simp [qKill] at hk
  | p :: ps, [], σ, σ1, h, _, hk => by simp [qKill] at hk
  | p :: ps, s :: ss, σ, σ1, h, hb, hk => by
    simp only [qKill] at hk
    obtain ⟨σ2, h1, hk⟩ := Option.bind_eq_some_iff.1 hk
    obtain ⟨hR, k⟩ := qKill1_rel h0 h hb h1
    obtain ⟨hR2, k2⟩ := qKill_rel h0 hR (fun b hb' => (k.bx b (hb b hb')).1) hk
    exact ⟨hR2, k.trans k2⟩
def qBox1 (p : PT) (s : Slot) (j : Nat) : List (Nat × Nat) := bif isPtr p then (match ptrBox s with
  | some b => [(b, j)]
  | none => []) else []
def qBoxes : List PT → List Slot → Nat → List (Nat × Nat)
  | p :: ps, s :: ss, j => qBox1 p s j ++ qBoxes ps ss (j + 16)
  | _, _, _ => []
theorem qBoxes_none : ∀ {ps : List PT} {ss : List Slot} {j : Nat}, noPtr ps = true → qBoxes ps ss j = []
  | [], ss, j, _ => by cases ss <;> rfl
  | _ :: _, [], j, _ => rfl
  | p :: ps, s :: ss, j, h => by
    simp only [noPtr, Bool.and_eq_true, Bool.not_eq_true'] at h
    simp only [qBoxes, qBox1, h.1, cond_false, List.nil_append]
    exact qBoxes_none h.2
theorem qBoxes_one : ∀ {ps : List PT} {ss : List Slot} {j : Nat}, onePtr ps = true → qBoxes ps ss j = [] ∨ ∃ q, qBoxes ps ss j = [q]
  | [], ss, j, _ => by cases ss <;> exact .inl rfl
  | _ :: _, [], j, _ => .inl rfl
  | p :: ps, s :: ss, j, h => by
    simp only [onePtr] at h
    simp only [qBoxes, qBox1]
    cases hp : isPtr p with
    | true =>
      rw [hp] at h
      rw [qBoxes_none h]
      cases ptrBox s with
      | none => exact .inl rfl
      | some b => exact .inr ⟨_, rfl⟩
    | false =>
      rw [hp] at h
      exact qBoxes_one h
theorem qKill1_boxes {dp : Bool} {p : PT} {s : Slot} {j : Nat} (hk : qKill1 dp σ0 p s σ = some σ1) : ∀ b, (look σ1.boxes b = look σ.boxes b ∧ b ∉ (qBox1 p s j).map (fun q => q.1)) ∨ ∃ l c, look σ0.boxes b = some (l :: c) ∧ look σ1.boxes b = some (junks (l :: c)) := by
  intro b
  unfold qKill1 at hk
  split at hk
  · next agg ts =>
    obtain ⟨ls, _, hm⟩ := Option.bind_eq_some_iff.1 hk
    exact .inl ⟨by rw [(moveAll_boxes hm).1], by simp [qBox1, isPtr]⟩
  · next ts =>
    obtain ⟨b', hb', hk⟩ := Option.bind_eq_some_iff.1 hk
    obtain ⟨c, hc, hk⟩ := Option.bind_eq_some_iff.1 hk
    split at hk
    · cases hk
    · next l c =>
      obtain ⟨σ2, hm, hk⟩ := Option.bind_eq_some_iff.1 hk
      obtain ⟨_, rfl⟩ := setBoxLike_eq hk
      rw [setBox_look]
      by_cases e : b' = b
      · subst e
        rw [if_pos rfl]
        exact .inr ⟨l, c, hc, rfl⟩
      · rw [if_neg e, (moveAll_boxes hm).1]
        exact .inl ⟨rfl, by simpa [qBox1, isPtr, hb'] using Ne.symm e⟩
  · next h1 h2 =>
    simp only [Option.some.injEq] at hk
    subst hk
    refine .inl ⟨rfl, ?_⟩
    have : isPtr p = false := by
      unfold isPtr
      split
      · next ts => exact absurd rfl (h2 ts)
      · rfl
    simp [qBox1, this]
theorem qKill_boxes {dp : Bool} : ∀ {ps : List PT} {ss : List Slot} {j : Nat} {σ σ1 : St}, qKill dp σ0 ps ss σ = some σ1 → ∀ b, (look σ1.boxes b = look σ.boxes b ∧ b ∉ (qBoxes ps ss j).map (fun q => q.1)) ∨ ∃ l c, look σ0.boxes b = some (l :: c) ∧ look σ1.boxes b = some (junks (l :: c))
  | [], [], j, σ, σ1, hk, b => by simp only [qKill, Option.some.injEq] at hk; subst hk; exact .inl ⟨rfl, by simp [qBoxes]⟩
  | [], _ :: _, _, σ, σ1, hk, b => by simp [qKill] at hk
  | p :: ps, [], _, σ, σ1, hk, b => by simp [qKill] at hk
  | p :: ps, s :: ss, j, σ, σ1, hk, b => by
    simp only [qKill] at hk
    obtain ⟨σ2, h1, hk⟩ := Option.bind_eq_some_iff.1 hk
    rcases qKill_boxes (j := j + 16) hk b with ⟨h3, h4⟩ | h3
    · rcases qKill1_boxes (j := j) h1 b with ⟨h5, h6⟩ | ⟨l, c, h5, h6⟩
      · refine .inl ⟨h3.trans h5, ?_⟩
        simp only [qBoxes, List.map_append, List.mem_append, not_or]
        exact ⟨h6, h4⟩
      · exact .inr ⟨l, c, h5, h3.trans h6⟩
    · exact .inr h3
theorem qArgs_ok {dp : Bool} (h : Rel F G σ0 tmps w) (hR1 : Rel F G σ1 tmps w) : ∀ {ps : List PT} {ss : List Slot} {x : pts ps} {vs : List Value} {σ σ' : St} (j : Nat), slotsR (stab F G.c w) G σ0 w ss vs → slotsR (stab F G.c w) G σ1 w ss vs → (∀ r g, σ.reg? r = some g → σ0.reg? r = some g) →
    qKill dp σ0 ps ss σ = some σ' → argsQ σ0 σ1 ps ss = some x → ∃ M, Moved σ σ' M ∧ ∀ T col, Suits F G w false M T col → (∀ q ∈ qBoxes ps ss j, col (G.bb q.1) = some [(q.2, 1)]) → Reads false F G σ1 w T → argsQR T col w dp ps x j vs
  | [], [], x, vs, σ, σ', j, hs0, hs1, hsub, hk, ha => by
    simp only [qKill, Option.some.injEq] at hk
    subst hk
    simp only [slotsR] at hs0
    exact ⟨[], Moved.refl, fun T col _ _ _ => by simpa [argsQR] using hs0⟩
  | [], _ :: _, x, vs, σ, σ', j, hs0, hs1, hsub, hk, ha => by simp [qKill] at hk
  | p :: ps, [], x, vs, σ, σ', j, hs0, hs1, hsub, hk, ha => by simp [qKill] at hk
  | p :: ps, s :: ss, x, vs, σ, σ', j, hs0, hs1, hsub, hk, ha => by
    simp only [slotsR] at hs0 hs1
    obtain ⟨v, vs', rfl, h1, h2⟩ := hs0
    obtain ⟨v2, vs2, hvv, g1, g2⟩ := hs1
    obtain ⟨rfl, rfl⟩ := List.cons.inj hvv
    simp only [qKill] at hk
    obtain ⟨σ2, hk1, hk⟩ := Option.bind_eq_some_iff.1 hk
    simp only [argsQ, Option.bind_eq_some_iff, Option.map_eq_some_iff] at ha
    obtain ⟨x1, ha1, xr, har, rfl⟩ := ha
    have key : ∃ M, Moved σ σ2 M ∧ ∀ T col, Suits F G w false M T col → (∀ q ∈ qBox1 p s j, col (G.bb q.1) = some [(q.2, 1)]) → Reads false F G σ1 w T → argQR T col w dp j p x1 v := by
      unfold qKill1 at hk1
      split at hk1
      · next agg ts =>
        obtain ⟨ls, hls, hm⟩ := Option.bind_eq_some_iff.1 hk1
        simp only [argQ, hls, Option.bind_some] at ha1
        obtain ⟨cs, hleafs, hsl⟩ := slotLeafs_ok h1 hls
        obtain ⟨M, hM, _, _, hout⟩ := moveAll_ok h j hleafs ha1 hsub hm
        exact ⟨M, hM, fun T col hsu _ _ => ⟨cs, hout T col hsu, hsl⟩⟩
      · next ts =>
        obtain ⟨b, hb, hk2⟩ := Option.bind_eq_some_iff.1 hk1
        obtain ⟨c, hc, hk3⟩ := Option.bind_eq_some_iff.1 hk2
        clear hk1 hk2
        have hs := ptrBox_eq hb
        subst hs
        split at hk3
        · cases hk3
        · next l c =>
          obtain ⟨σ3, hm, hk4⟩ := Option.bind_eq_some_iff.1 hk3
          obtain ⟨_, rfl⟩ := setBoxLike_eq hk4
          simp only [argQ, hb, hc, Option.bind_some] at ha1
          obtain ⟨t, cur, b1, b2, b3, b4⟩ := h.boxes b _ hc
          obtain ⟨M, hM, _, _, hout⟩ := moveAll_ok h j b3 ha1 hsub hm
          simp only [slotR, leafR] at h1
          refine ⟨M, ⟨hM.was, hM.once, hM.sub⟩, fun T col hsu hq _ => ⟨G.bb b, cur, t, h1.2, b1, hq (b, j) (by simp [qBox1, isPtr, hb]), hout T col hsu⟩⟩
      · next hn1 hn2 =>
        simp only [Option.some.injEq] at hk1
        subst hk1
        refine ⟨[], Moved.refl, fun T col _ _ hT => ?_⟩
        have : argQ σ0 σ1 p s = argAs false σ1 p s := by
          unfold argQ
          split
          · exact absurd rfl (hn1 _ _)
          · exact absurd rfl (hn2 _)
          · rfl
        rw [this] at ha1
        have hh := argAs_ok hR1 hT g1 ha1
        unfold argQR
        split
        · exact absurd rfl (hn1 _ _)
        · exact absurd rfl (hn2 _)
        · exact hh
    obtain ⟨M1, hM1, hout1⟩ := key
    obtain ⟨M2, hM2, hout2⟩ := qArgs_ok h hR1 (j + 16) h2 g2 (fun r g hg => hsub r g (hM1.sub r g hg)) hk har
    refine ⟨M1 ++ M2, hM1.trans hM2, fun T col hsu hq hT => ?_⟩
    simp only [argsQR]
    exact ⟨v, vs', rfl, by rw [phd_pmk]; exact hout1 T col hsu.left (fun q hq' => hq q (by simp only [qBoxes, List.mem_append]; exact .inl hq')) hT,
      by rw [ptl_pmk]; exact hout2 T col hsu.right (fun q hq' => hq q (by simp only [qBoxes, List.mem_append]; exact .inr hq')) hT⟩

theorem backQ1_ok {dp : Bool} {id : Nat} {col : Nat → Option Col} {p : PT} {s : Slot} {x : p.den} {v : Value} (h : Rel F G σ tmps w') (hc : ∀ b l j, col b = some (l ++ [(j, 0)]) → G.c b = some (l ++ [(id + j, 0)])) (hfl : flatQ [p] = true ∨ dp = true)
    (hs : slotR (stab F G.c w') G σ w' s v) (ho : backQR col w' dp p x v) (hb : backQ1 dp id p s x σ = some σ') : ∃ G', Rel F G' σ' tmps w' ∧ Keep F G σ w' G' σ' w' ∧ G'.c = G.c := by
  unfold backQ1 at hb
  split at hb
  · next ts x =>
    obtain ⟨b, hpb, hb⟩ := Option.bind_eq_some_iff.1 hb
    obtain ⟨⟨ls, σ1⟩, hf, hb⟩ := Option.bind_eq_some_iff.1 hb
    obtain ⟨_, rfl⟩ := setBoxLike_eq hb
    have e := ptrBox_eq hpb
    subst e
    simp only [slotR, leafR] at hs
    obtain ⟨hsome, hv⟩ := hs
    simp only [backQR] at ho
    obtain ⟨g, cur, t, hv2, hh, hcg, ho⟩ := ho
    rw [hv] at hv2
    injection hv2 with hv2
    injection hv2 with hv2
    injection hv2 with hv2
    subst hv2
    have hfl' : flatRes ts = true ∨ dp = true := hfl.imp_left fun hfl => by simpa [flatQ] using hfl
    obtain ⟨G1, hR1, k1, e1, hl1⟩ := fresh_ok h hc (.inr ⟨rfl, hfl'⟩) ho hf
    obtain ⟨c, hcb⟩ := Option.isSome_iff_exists.1 hsome
    obtain ⟨_, _, _, b2, _⟩ := h.boxes b c hcb
    have hbb : G1.bb b = G.bb b := (k1.bx b hsome).2
    obtain ⟨hR2, k2⟩ := hR1.setBoxAt (b := b) (ls := ls) (t := t) (cur := cur) (k1.bx b hsome).1 (by rw [hbb]; exact hh) (by rw [hbb, e1]; exact b2) hl1 (outR_one ho)
    exact ⟨G1, hR2, k1.trans k2, e1⟩
  · simp only [Option.some.injEq] at hb
    subst hb
    exact ⟨G, h, Keep.refl _ _ _ _, rfl⟩
theorem flatQ_cons {p : PT} {ps : List PT} (h : flatQ (p :: ps) = true) : flatQ [p] = true ∧ flatQ ps = true := by
  rcases p with ⟨agg, m, ts⟩ | ⟨io, ts⟩ | ⟨f, cs⟩
  · exact ⟨rfl, by simpa only [flatQ] using h⟩
  · cases io with
    | true => simpa [flatQ] using h
    | false => exact ⟨rfl, by simpa only [flatQ] using h⟩
  · exact ⟨rfl, by simpa only [flatQ] using h⟩
theorem backQ_ok {dp : Bool} {id : Nat} {col : Nat → Option Col} : ∀ {ps : List PT} {ss : List Slot} {x : pts ps} {vs : List Value} {G : Gh} {σ σ' : St}, Rel F G σ tmps w' → (∀ b l j, col b = some (l ++ [(j, 0)]) → G.c b = some (l ++ [(id + j, 0)])) → (flatQ ps = true ∨ dp = true) →
    slotsR (stab F G.c w') G σ w' ss vs → backsQR col w' dp ps x vs → backQ dp id ps ss x σ = some σ' → ∃ G', Rel F G' σ' tmps w' ∧ Keep F G σ w' G' σ' w' ∧ G'.c = G.c
  | [], [], x, vs, G, σ, σ', h, hc, hfl, hs, ho, hb => by
    simp only [backQ, Option.some.injEq] at hb
    subst hb
    exact ⟨G, h, Keep.refl _ _ _ _, rfl⟩
  | [], _ :: _, x, vs, G, σ, σ', h, hc, hfl, hs, ho, hb => by simp [backQ] at hb
  | p :: ps, [], x, vs, G, σ, σ', h, hc, hfl, hs, ho, hb => by simp [backQ] at hb
  | p :: ps, s :: ss, x, vs, G, σ, σ', h, hc, hfl, hs, ho, hb => by
    simp only [slotsR] at hs
    obtain ⟨v, vs', rfl, h1, h2⟩ := hs
    simp only [backsQR] at ho
    obtain ⟨v2, vs2, hvv, o1, o2⟩ := ho
    obtain ⟨rfl, rfl⟩ := List.cons.inj hvv
    simp only [backQ] at hb
    obtain ⟨σ1, hb1, hb⟩ := Option.bind_eq_some_iff.1 hb
    obtain ⟨G1, hR1, k1, e1⟩ := backQ1_ok h hc (hfl.imp_left fun h => (flatQ_cons h).1) h1 o1 hb1
    obtain ⟨G2, hR2, k2, e2⟩ := backQ_ok hR1 (by rw [e1]; exact hc) (hfl.imp_left fun h => (flatQ_cons h).2) (slotsR_keep k1 h2) o2 hb
    exact ⟨G2, hR2, k1.trans k2, e2.trans e1⟩
theorem backs_cells {dp : Bool} {col : Nat → Option Col} {S : Nat → Prop} : ∀ {ps : List PT} {ss : List Slot} {x0 x : pts ps} {vs : List Value} {j : Nat}, slotsR S G σ0 w ss vs → argsQ σ0 σ1 ps ss = some x0 → backsQR col w' dp ps x vs →
    ∀ q ∈ qBoxes ps ss j, ∃ c cur t, look σ0.boxes q.1 = some c ∧ w'.heap[G.bb q.1]? = some (.cells cur t (0, 0)) ∧ cur.toList.length = c.length ∧ (∀ u ∈ cur.toList, u.oneCell' = true) ∧ col (G.bb q.1) = none
  | [], ss, x0, x, vs, j, hs, ha, ho, q, hq => by cases ss <;> simp [qBoxes] at hq
  | p :: ps, [], x0, x, vs, j, hs, ha, ho, q, hq => by simp [qBoxes] at hq
  | p :: ps, s :: ss, x0, x, vs, j, hs, ha, ho, q, hq => by
    simp only [slotsR] at hs
    obtain ⟨v, vs', rfl, h1, h2⟩ := hs
    simp only [backsQR] at ho
    obtain ⟨v2, vs2, hvv, o1, o2⟩ := ho
    obtain ⟨rfl, rfl⟩ := List.cons.inj hvv
    simp only [argsQ, Option.bind_eq_some_iff, Option.map_eq_some_iff] at ha
    obtain ⟨x1, ha1, xr, har, rfl⟩ := ha
    simp only [qBoxes, List.mem_append] at hq
    rcases hq with hq | hq
    · rcases p with ⟨agg, m, ts⟩ | ⟨io, ts⟩ | ⟨f, cs⟩
      · simp [qBox1, isPtr] at hq
      · cases io with
        | false => simp [qBox1, isPtr] at hq
        | true =>
          unfold argQ at ha1
          obtain ⟨b, hb, ha2⟩ := Option.bind_eq_some_iff.1 ha1
          obtain ⟨c, hc, ha3⟩ := Option.bind_eq_some_iff.1 ha2
          have e := ptrBox_eq hb
          subst e
          simp only [qBox1, isPtr, hb, cond_true, List.mem_singleton] at hq
          subst hq
          simp only [slotR, leafR] at h1
          simp only [backQR] at o1
          obtain ⟨g, cur, t, hv, hh, hcg, ho⟩ := o1
          rw [h1.2] at hv
          injection hv with hv
          injection hv with hv
          injection hv with hv
          subst hv
          exact ⟨c, cur, t, hc, hh, by rw [outR_length ho, asAll_length ha3], outR_one ho, hcg⟩
      · simp [qBox1, isPtr] at hq
    · exact backs_cells h2 har o2 q hq

open Classical in
theorem stepQ_ok (h : Rel F G σ a.tmps w) {c : CtM} (hc : CtQAt P c F.n0 w) {ss : List Slot} {vals : List Value} (hss : slotsR (stab F G.c w) G σ w ss vals) {d : Option Nat} {id : Nat} {ps : List Prop} (hs : stepQ σ d id c ss = some (ps, σ')) (hp : ∀ p ∈ ps, p) :
    (∃ fn, P.funcs[c.f]? = some fn ∧ (fn.name == "runtime.NumGoroutine") = false ∧ fn.body.isNone = false) ∧
    Calls P c.f vals.toArray w fun e w' => ∃ v, e = .returned v ∧ Next F σ' a d v w' := by
  unfold stepQ at hs
  obtain ⟨hfl, hs⟩ := bif_some hs
  simp only [Bool.and_eq_true, Bool.or_eq_true] at hfl
  obtain ⟨hone, hfl⟩ := hfl
  obtain ⟨σ1, hkill, hs⟩ := Option.bind_eq_some_iff.1 hs
  obtain ⟨x, hx, hs⟩ := Option.bind_eq_some_iff.1 hs
  obtain ⟨⟨rs, σ2⟩, hrs, hs⟩ := Option.bind_eq_some_iff.1 hs
  obtain ⟨σ3, hback, hs2⟩ := Option.bind_eq_some_iff.1 hs
  clear hs
  have hs := hs2
  clear hs2
  obtain ⟨hR1, k1⟩ := qKill_rel h h (fun _ h => h) hkill
  obtain ⟨M, hM, hargs⟩ := qArgs_ok h hR1 0 hss (slotsR_keep k1 hss) (fun _ _ h => h) hkill hx
  have hkb := qKill_boxes (j := 0) hkill
  have hB1 := qBoxes_one (ss := ss) (j := 0) hone
  generalize hBx : qBoxes c.ps ss 0 = Bx at hargs hkb hB1
  let isB : Nat → Prop := fun b => ∃ q ∈ Bx, G.bb q.1 = b
  let jb : Nat := match Bx with
    | q :: _ => q.2
    | [] => 0
  let col : Nat → Option Col := fun b => if isB b then some [(jb, 1)] else shiftC G.c M b
  have hjb : ∀ q ∈ Bx, q.2 = jb := fun q hq => by
    rcases hB1 with e | ⟨q', e⟩
    · rw [e] at hq; simp at hq
    · subst e
      have : q = q' := by simpa using hq
      rw [this]
  -- the variable that is handed in
  have hBq : ∀ q ∈ Bx, ∃ c0, look σ.boxes q.1 = some c0 ∧ c0 ≠ [] ∧ look σ1.boxes q.1 = some (junks c0) ∧ G.c (G.bb q.1) = some [(q.1, 1)] := fun q hq => by
    rcases hkb q.1 with ⟨_, hn⟩ | ⟨l, c0, h1, h2⟩
    · exact absurd (List.mem_map.2 ⟨q, hq, rfl⟩) hn
    · obtain ⟨_, _, _, b2, _⟩ := h.boxes q.1 _ h1
      exact ⟨_, h1, by simp, h2, b2⟩
  have hBc : ∀ b, isB b → ∃ n, G.c b = some [(n, 1)] ∧ n ∈ Bx.map fun q => q.1 := fun b ⟨q, hq, e⟩ => by
    obtain ⟨_, _, _, _, h4⟩ := hBq q hq
    exact ⟨q.1, by rw [← e]; exact h4, List.mem_map.2 ⟨q, hq, rfl⟩⟩
  have hcol : ∀ b, col b ≠ none → isB b ∨ (¬ isB b ∧ ∃ l r, G.c b = some (l ++ [(r, 0)]) ∧ (σ.reg? r).isSome ∧ σ1.reg? r = none) := fun b hb => by
    by_cases hi : isB b
    · exact .inl hi
    · have hb' : shiftC G.c M b ≠ none := by
        simp only [col] at hb
        rwa [if_neg hi] at hb
      obtain ⟨l, r, j, h1, h2⟩ := shiftC_ne hb'
      have hm := look_key h2
      exact .inr ⟨hi, l, r, h1, (hM.was _ hm).1, (hM.was _ hm).2⟩
  have hcn : ∀ b, G.c b = none → ¬ isB b ∧ col b = none := fun b hb => by
    have hi : ¬ isB b := fun hi => by
      obtain ⟨n, h1, _⟩ := hBc b hi
      rw [hb] at h1; cases h1
    refine ⟨hi, ?_⟩
    simp only [col]
    rw [if_neg hi]
    exact shiftC_none hb
  have hcne : ∀ b, col b ≠ none → G.c b ≠ none := fun b hb e => hb (hcn b e).2
  have hbox : ∀ b n, G.c b = some [(n, 1)] → n ∉ (Bx.map fun q => q.1) → ¬ isB b ∧ col b = none := fun b n hb hn => by
    have hi : ¬ isB b := fun hi => by
      obtain ⟨n', h1, h2⟩ := hBc b hi
      rw [hb] at h1
      have : n = n' := by simpa using h1
      subst this
      exact hn h2
    refine ⟨hi, ?_⟩
    cases hq : col b with
    | none => rfl
    | some q =>
      rcases hcol b (by rw [hq]; simp) with h1 | ⟨_, l, r, h1, _⟩
      · exact absurd h1 hi
      · rw [hb] at h1
        have := congrArg List.getLast? (Option.some.inj h1)
        simp at this
  have hroots : ∀ (l l' : Col) (r r' : Nat), l ++ [(r, 0)] = l' ++ [(r', 0)] → r = r' := fun l l' r r' e => by
    have := congrArg List.getLast? e
    simp at this
    exact this
  have hrow : ∀ b l r, G.c b = some (l ++ [(r, 0)]) → (σ1.reg? r).isSome → ¬ isB b ∧ col b = none := fun b l r hb hr => by
    have hi : ¬ isB b := fun hi => by
      obtain ⟨n', h1, h2⟩ := hBc b hi
      rw [hb] at h1
      have := congrArg List.getLast? (Option.some.inj h1)
      simp at this
    refine ⟨hi, ?_⟩
    cases hq : col b with
    | none => rfl
    | some q =>
      rcases hcol b (by rw [hq]; simp) with h1 | ⟨_, l', r', h1, _, h2⟩
      · exact absurd h1 hi
      · rw [hb] at h1
        have := hroots _ _ _ _ (Option.some.inj h1)
        subst this
        rw [h2] at hr; cases hr
  have hsuit : Suits F G w false M (fun b => b < w.heap.size ∧ col b = none) col := by
    refine ⟨fun b hb => ⟨stab_lt h hb, (hcn b (stab_none h hb)).2⟩, by simp, fun p hp b l hb => ?_⟩
    have hi : ¬ isB b := fun hi => by
      obtain ⟨n', h1, h2⟩ := hBc b hi
      rw [hb] at h1
      have := congrArg List.getLast? (Option.some.inj h1)
      simp at this
    simp only [col]
    rw [if_neg hi]
    exact shiftC_of hb (look_pairs hM.once hp)
  have hreads : Reads false F G σ1 w (fun b => b < w.heap.size ∧ col b = none) := {
    rd := fun hl ha => as_free hR1 hsuit.1 (fun r g b l hg hb => ⟨col_lt h hb, (hrow b l r hb (by rw [hg]; rfl)).2⟩) hl ha
    sb := hsuit.1
    bx := fun _ b cc ts x hbc hax => by
      obtain ⟨t, cur, _, b2, _⟩ := hR1.boxes b cc hbc
      by_cases hm : b ∈ Bx.map fun q => q.1
      · exfalso
        obtain ⟨q, hq, rfl⟩ := List.mem_map.1 hm
        obtain ⟨c0, _, hne, h3, _⟩ := hBq q hq
        rw [hbc] at h3
        injection h3 with h3
        subst h3
        cases c0 with
        | nil => exact hne rfl
        | cons l c0 =>
          cases ts with
          | nil => simp [junks, mp, asAllB] at hax
          | cons t ts =>
            simp only [junks, mp, asAllB, Option.bind_eq_some_iff] at hax
            obtain ⟨_, hax, _⟩ := hax
            simp [asB, Leaf.as] at hax
      · exact ⟨col_lt h b2, (hbox _ _ b2 hm).2⟩ }
  have hpre : c.pre x := by
    have : ps = [c.pre x] := by
      simp only at hs
      split at hs <;> exact ((Prod.mk.inj (Option.some.inj hs)).1).symm
    exact hp _ (by rw [this]; simp)
  have hn0 : F.n0 ≤ w.heap.size := Nat.le_trans h.hS.n0 h.below.size
  obtain ⟨hfn, hcall⟩ := hc hn0 vals.toArray x _ col (fun b hb => hb) (fun b hb => by
    have := h.col b (hcne b hb)
    refine ⟨?_, this.2⟩
    rcases this.1 with h2 | h2
    · exact Nat.le_trans h.hS.n0 h2
    · exact (h.hS.O b h2).1) (hargs _ col hsuit (fun q hq => by
      simp only [col]
      rw [if_pos ⟨q, hq, rfl⟩, hjb q hq]) hreads) hpre
  refine ⟨hfn, hcall.mono ?_⟩
  rintro e w' ⟨vs, v, col', rfl, hbel, hsame, hret, hcol', hres, hbk⟩
  refine ⟨v, rfl, ?_⟩
  have hcells := backs_cells (j := 0) hss hx hbk
  rw [hBx] at hcells
  -- the state behind the call
  let G' : Gh := ⟨fun b => if isB b then G.c b else if w.heap.size ≤ b ∨ col b ≠ none then (col' b).map (reroot (id + 16)) else G.c b, G.bb, G.rv⟩
  have hold : ∀ b, b < w.heap.size → col b = none → G'.c b = G.c b := fun b hb hcb => by
    simp only [G']
    split
    · rfl
    · rw [if_neg (by rintro (h1 | h1); omega; exact h1 hcb)]
  have hst : ∀ b, stab F G.c w b → stab F G'.c w' b := fun b hs => by
    have hlt := stab_lt h hs
    have hcb := (hcn b (stab_none h hs)).2
    rcases hs with hs | hs
    · exact .inl hs
    · exact .inr ⟨hs.1, Nat.lt_of_lt_of_le hlt hbel.size, by rw [hold b hlt hcb]; exact hs.2.2⟩
  have k2 : Keep F G σ1 w G' σ1 w' := {
    below := ⟨hbel, fun b hb hO => by
      have hlt := Nat.lt_of_lt_of_le hb h.below.size
      refine hsame b hlt ?_
      cases hcb : col b with
      | none => rfl
      | some j =>
        rcases (h.col b (hcne b (by rw [hcb]; simp))).1 with h2 | h2
        · omega
        · exact absurd h2 hO⟩
    st := fun b hb => ⟨hst b hb, hsame b (stab_lt h hb) (hcn b (stab_none h hb)).2⟩
    bx := fun b hb => ⟨hb, rfl⟩
    rg := fun r hr => ⟨hr, rfl, fun g' hg' => ⟨g', hg', rfl, rfl⟩⟩ }
  have hR2 : Rel F G' σ1 a.tmps w' := by
    refine hR1.next k2 (fun b hb => ?_) (fun b cc hbc => ?_) (fun r g hg => .inl ⟨hg, .inr fun b p hb hroot => ?_⟩) (fun i => .inl ⟨rfl, rfl⟩) hR1.nslots
    · simp only [G'] at hb
      split at hb
      · have := h.col b hb
        exact ⟨this.1, Nat.lt_of_lt_of_le this.2 hbel.size⟩
      · split at hb
        · next hcase =>
          have h1 : col' b ≠ none := fun e => hb (by rw [e]; rfl)
          have h2 := hcol' b h1
          refine ⟨?_, h2.2⟩
          rcases hcase with h3 | h3
          · exact .inl (Nat.le_trans h.below.size h3)
          · exact (h.col b (hcne b h3)).1
        · have := h.col b hb
          exact ⟨this.1, Nat.lt_of_lt_of_le this.2 hbel.size⟩
    · by_cases hm : b ∈ Bx.map fun q => q.1
      · obtain ⟨q, hq, rfl⟩ := List.mem_map.1 hm
        obtain ⟨c0, h1, hne, h3, h4⟩ := hBq q hq
        obtain ⟨c1, cur, t, g1, g2, g3, g4, g5⟩ := hcells q hq
        rw [hbc] at h3
        injection h3 with h3
        subst h3
        rw [h1] at g1
        injection g1 with g1
        subst g1
        refine .inr ⟨t, cur, g2, ?_, leafsR_junks g3, g4⟩
        simp only [G']
        rw [if_pos ⟨q, hq, rfl⟩]
        exact h4
      · obtain ⟨t, cur, _, b2, _⟩ := hR1.boxes b cc hbc
        have hb2 := hbox _ _ b2 hm
        exact .inl ⟨hbc, hold _ (col_lt h b2) hb2.2, hsame _ (col_lt h b2) hb2.2⟩
    · obtain ⟨l2, rfl⟩ := hroot
      have hb2 := hrow b _ r hb (by rw [hg]; rfl)
      exact ⟨(hold b (col_lt h hb) hb2.2).trans hb, hsame b (col_lt h hb) hb2.2⟩
  have hcc : ∀ b l j, col' b = some (l ++ [(j, 0)]) → G'.c b = some (l ++ [(id + 16 + j, 0)]) := fun b l j hj => by
    have h1 := hcol' b (by rw [hj]; simp)
    have hi : ¬ isB b := fun ⟨q, hq, e⟩ => by
      obtain ⟨_, _, _, _, _, _, _, g5⟩ := hcells q hq
      rw [e, hj] at g5
      cases g5
    simp only [G']
    rw [if_neg hi, if_pos h1.1, hj, Option.map_some, reroot_snoc]
  obtain ⟨G3, hR3, k3, e3, hl⟩ := res_ok (S := fun _ => True) (col := col') (sh := false) (id := id + 16) hR2 hcc (.inr ⟨rfl, hfl.imp_left fun h => h.1⟩) hres hrs
  have hsl3 : slotsR (stab F G3.c w') G3 σ2 w' ss vals := slotsR_keep k3 (slotsR_keep k2 (slotsR_keep k1 hss))
  obtain ⟨G4, hR4, k4, _⟩ := backQ_ok hR3 (by rw [e3]; exact hcc) (hfl.imp_left fun h => h.2) hsl3 hbk hback
  replace hl := slotsR_keep k4 hl
  -- the slot
  have hend : ∀ r : Slot, σ' = σ3.setSlot d r → slotR (stab F G4.c w') G4 σ3 w' r v → Next F σ' a d v w' := fun r e hr => by
    subst e
    exact ⟨G4, by rw [put_tmps]; exact hR4.setSlot (Like.refl _) hr⟩
  clear hback hrs
  simp only at hs
  split at hs
  · next r =>
    have e := ((Prod.mk.inj (Option.some.inj hs)).2).symm
    simp only [slotsR] at hl
    obtain ⟨v', vs', hv, hr, hv'⟩ := hl
    subst hv'
    have : v = v' := by
      rcases hret with hret | ⟨hret, _⟩
      · rw [hret] at hv
        simpa using hv
      · rw [hv] at hret
        simp at hret
    rw [this]
    rw [this] at hend
    exact hend r e hr
  · next hne =>
    have e := ((Prod.mk.inj (Option.some.inj hs)).2).symm
    refine hend _ e ?_
    simp only [slotR]
    rcases hret with hret | ⟨hret, hv⟩
    · rw [hret] at hl
      have := slotsR_length hl
      obtain ⟨r, hr⟩ := List.length_eq_one_iff.1 (by simpa using this.symm)
      exact absurd hr (hne r)
    · exact ⟨vs, hv, hl⟩
theorem stepQs_ok (h : Rel F G σ a.tmps w) {f : FuncId} {ss : List Slot} {vals : List Value} (hss : slotsR (stab F G.c w) G σ w ss vals) {d : Option Nat} {id : Nat} {ps : List Prop} (hp : ∀ p ∈ ps, p) :
    ∀ {cs : List CtM}, (∀ c ∈ cs, CtMAt P c F.n0 w) → stepQs σ d id f ss cs = some (ps, σ') →
    (∃ fn, P.funcs[f]? = some fn ∧ (fn.name == "runtime.NumGoroutine") = false ∧ fn.body.isNone = false) ∧
    Calls P f vals.toArray w fun e w' => ∃ v, e = .returned v ∧ Next F σ' a d v w'
  | [], _, hs => by simp [stepQs] at hs
  | c :: cs, hc, hs => by
    unfold stepQs at hs
    cases hf : (Nat.beq c.f f && c.q) with
    | false =>
      rw [hf] at hs
      exact stepQs_ok h hss hp (fun c' hc' => hc c' (List.mem_cons_of_mem _ hc')) (by simpa using hs)
    | true =>
      rw [hf] at hs
      simp only [Bool.and_eq_true] at hf
      have e := beq_nat hf.1
      subst e
      cases hct : stepQ σ d id c ss with
      | none =>
        rw [hct] at hs
        exact stepQs_ok h hss hp (fun c' hc' => hc c' (List.mem_cons_of_mem _ hc')) (by simpa using hs)
      | some r =>
        rw [hct] at hs
        simp only [cond_true, Option.some.injEq] at hs
        subst hs
        exact stepQ_ok h ((hc c List.mem_cons_self).take hf.2) hss hct hp
end
end Go.Ev
end

section
/- The small machine is true to the model: rows that are cut, rows whose end is cleared. -/
set_option linter.unusedVariables false
namespace Go.Ev
open Go.RowKit

section
variable {P : Program} {E : Env} {F : Fm} {G G' : Gh} {σ σ' : St} {w w' : World} {a : Act} {o : Oper} {tmps : Array Value}

theorem setAll_get : ∀ (vs cs : List Value) (o j : Nat), o + vs.length ≤ cs.length → (setAll cs o vs)[j]? = if o ≤ j ∧ j < o + vs.length then vs[j - o]? else cs[j]?
  | [], cs, o, j, h => by
    simp only [setAll]
    rw [if_neg (by simp)]
  | v :: vs, cs, o, j, h => by
    simp only [List.length_cons] at h
    simp only [setAll]
    rw [setAll_get vs _ (o + 1) j (by simpa using by omega)]
    by_cases e : j = o
    · subst e
      rw [if_neg (by omega), if_pos ⟨Nat.le_refl _, by simp⟩]
      rw [List.getElem?_set_self (by omega)]
      simp
    · by_cases h1 : o ≤ j ∧ j < o + (v :: vs).length
      · rw [if_pos h1, if_pos ⟨by omega, by simp at h1; omega⟩]
        obtain ⟨m, rfl⟩ : ∃ m, j = o + 1 + m := ⟨j - (o + 1), by omega⟩
        rw [show o + 1 + m - (o + 1) = m by omega, show o + 1 + m - o = m + 1 by omega]
        simp
      · rw [if_neg h1, if_neg (by simp at h1; omega), List.getElem?_set_ne (by omega)]
theorem slOf_ok (hE : EnvOk P E) {t : TypeId} {ls : List L} (h : E.isSlOf t ls = true) : ∃ e ie z, P.underlying t = some (.slice e) ∧ P.info? e = some ie ∧ ie.size = ls.length ∧ ie.zero = some z ∧ zeroB ls z.cells.toList = true ∧ ls ≠ [] := by
  unfold Env.isSlOf at h
  split at h
  · next e1 ls1 b1 ls2 ht =>
    obtain ⟨hu, _, _, hne, ie, z, hie, hsz, _, hz, hzb⟩ := ti_sl (hE.ti ht) rfl
    have e := L.beqs_eq _ _ h
    subst e
    exact ⟨e1, ie, z, hu, hie, hsz, hz, hzb, hne⟩
  · cases h

theorem own_cut {S : Nat → Prop} {c : Nat → Option Col} {d : Bool} {e : TypeId} {ls : List L} {xs : List (dens ls)} {q : Nat × Nat} {v : Value} {b : Nat} (hb : b ≤ xs.length) (h : repL (regRow w S c true d) (.list e ls) [q] xs v) :
    ∃ A cap, v = .slice A xs.length cap ∧ xs.length ≤ cap ∧ repL (regRow w S c true d) (.list e ls) [q] (xs.take b) (.slice A b cap) := by
  simp only [repL] at h
  obtain ⟨cs, hrow, hlen, hel⟩ := h
  have hlen' : cs.length = xs.length * ls.length := hlen
  have hbm : b * ls.length ≤ xs.length * ls.length := Nat.mul_le_mul_right _ hb
  have hlt : (xs.take b).length = b := by rw [List.length_take]; omega
  have hel2 : ∀ (i : Nat) (x : L.dens ls), gt (α := L.dens ls) (xs.take b) i = some x → repLs (regRow w S c true d) ls [q] i 0 x (((cs.take (b * ls.length)).drop (i * ls.length)).take ls.length) := fun i x hx => by
    have hx' : (xs.take b)[i]? = some x := hx
    rw [List.getElem?_take] at hx'
    split at hx'
    · next hi =>
      have := hel i x hx'
      have hm : (i + 1) * ls.length ≤ b * ls.length := Nat.mul_le_mul_right _ hi
      rw [Nat.add_mul] at hm
      rw [List.drop_take, List.take_take, Nat.min_eq_left (by omega)]
      exact this
    · cases hx'
  unfold regRow at hrow
  rw [if_pos (by simp)] at hrow
  rcases hrow with ⟨h0, A, rfl⟩ | ⟨g, cap, cur, fr, rfl, hg, hh, h1, h2, h3, h4, h5, h6⟩
  · have h0' : xs.length = 0 := h0
    have hb0 : b = 0 := by omega
    subst hb0
    refine ⟨A, 0, by rw [h0'], by omega, ?_⟩
    simp only [repL]
    refine ⟨cs.take (0 * ls.length), ?_, by simp, hel2⟩
    unfold regRow
    rw [if_pos (by simp)]
    exact .inl ⟨by simp, A, rfl⟩
  · refine ⟨_, cap, rfl, h1, ?_⟩
    simp only [repL]
    refine ⟨cs.take (b * ls.length), ?_, by rw [List.length_take, hlen']; simp [List.length_take, Nat.min_eq_left hbm, Nat.min_eq_left hb], hel2⟩
    unfold regRow
    rw [if_pos (by simp)]
    have e : List.length (α := L.dens ls) (xs.take b) = b := hlt
    rw [e]
    refine .inr ⟨g, cap, cur, fr, rfl, hg, hh, Nat.le_trans hb h1, h2, h3, ?_, h5, ?_⟩
    · rw [← h4, List.take_take]
      congr 1
      exact (Nat.min_eq_left hbm).symm
    · left
      rw [h5 rfl]
theorem cutReg_ok (hE : EnvOk P E) (h : Rel F G σ a.tmps w) {t : TypeId} {x hi : Operand} {l : Leaf} {k : IntKind} {b : Int} (ho : o.op = .slice t x none (some hi) none) (hx : (σ.op x).one = some l) (hh : (σ.op hi).int? = some (k, b)) {id : Nat} {ps : List Prop}
    (hs : cutReg E σ o.dst id t l b = some (ps, σ')) (hp : ∀ p ∈ ps, p) : OpOk P o a w (Next F σ' a o.dst) := by
  unfold cutReg at hs
  split at hs
  · next r =>
    obtain ⟨g, hg, hs⟩ := Option.bind_eq_some_iff.1 hs
    obtain ⟨hb, hs⟩ := bif_some hs
    simp only [Bool.and_eq_true, Bool.not_eq_true'] at hb
    obtain ⟨⟨⟨⟨hfz, happ⟩, hnh⟩, hfd⟩, hsl⟩ := hb
    obtain ⟨σ1, hnew, hs⟩ := Option.map_eq_some_iff.1 hs
    obtain ⟨rfl, rfl⟩ := Prod.mk.inj hs
    have p1 : 0 ≤ b := hp _ (by simp)
    have p2 : b ≤ (g.xs.length : Int) := hp _ (by simp)
    have hv := one_val h hx
    simp only [leafR] at hv
    obtain ⟨e0, ie, z, hu, hie, hsz, _⟩ := slOf_ok hE hsl
    have hu' := elem_of hu
    have hel0 : P.elem t = e0 := by simp [Program.elem, hu]
    obtain ⟨hk1, _⟩ := h.kill r (reg?_some hg)
    obtain ⟨hR2, _⟩ := hk1.growD (growD_place hk1 (M := [(r, (id, 0))]) (fun p hp => by
      have : p = (r, (id, 0)) := by simpa using hp
      subst this
      rw [setReg_look, if_pos rfl]) [])
    have hm : repL (regRow w (stab F (placeC G.c [(r, (id, 0))] []) w) (placeC G.c [(r, (id, 0))] []) true true) (.list g.e g.ls) [(id, 0)] g.xs (G.rv r) :=
      own_moved h hg hfz (fun _ => happ) hnh hfd (fun b l hb => ⟨placeC_hit (P := []) (p := (r, (id, 0))) (by simp) (by simp) hb, rfl⟩)
    have hm2 : repL (regRow w (stab F (placeC G.c [(r, (id, 0))] []) w) (placeC G.c [(r, (id, 0))] []) true g.deep) (.list g.e g.ls) [(id, 0)] g.xs (G.rv r) := by
      cases hd : g.deep with
      | true => exact hm
      | false =>
        rw [hd, Bool.or_false] at hfd
        refine repList_flat hfd (fun sz n v cs hh => ?_) hm
        unfold regRow at hh ⊢
        rw [if_pos (by simp)] at hh ⊢
        exact hh
    obtain ⟨A, cap, hv2, hcap, hcut⟩ := own_cut (b := b.toNat) (by omega) hm2
    obtain ⟨hR3, _, hl⟩ := hR2.claim hnew hcut
    refine opOk_value (w' := w) (v := .slice A b.toNat cap) ?_ ⟨_, by rw [put_tmps]; exact hR3.setSlot (Like.refl _) (by simp only [slotR]; exact hl)⟩
    have hszr : (sizeOf (P.elem t)).run P w = .ok g.ls.length w := by simp [hel0, sizeOf, typeInfo, hie, hsz]
    have hrun := run_slice_h (P := P) w t A g.xs.length cap hu' k b p1 (by omega)
    rw [hszr] at hrun
    simp only [Result.andThen_ok] at hrun
    have hs0 : sliced A 0 b.toNat cap g.ls.length = .slice A b.toNat cap := by
      unfold sliced
      have : A.map (·.add (0 * g.ls.length)) = A := by cases A <;> simp [Addr.add]
      rw [this]
      simp
    rw [hs0] at hrun
    simp [execOp, ho, hv.2.1, hv2, int_val h hh, run_sliceAt_slice _ _ _ _ _ _ hu', hrun]
  · cases hs
theorem tailReg_ok (hE : EnvOk P E) (h : Rel F G σ a.tmps w) {t : TypeId} {x lo : Operand} {l : Leaf} {k : IntKind} {b : Int} (ho : o.op = .slice t x (some lo) none none) (hx : (σ.op x).one = some l) (hh : (σ.op lo).int? = some (k, b)) {ps : List Prop}
    (hs : tailReg E σ o.dst t l b = some (ps, σ')) (hp : ∀ p ∈ ps, p) : OpOk P o a w (Next F σ' a o.dst) := by
  unfold tailReg at hs
  split at hs
  · next r =>
    obtain ⟨g, hg, hs⟩ := Option.bind_eq_some_iff.1 hs
    obtain ⟨hb, hs⟩ := bif_some hs
    simp only [Bool.and_eq_true, Bool.not_eq_true'] at hb
    obtain ⟨⟨⟨hfz, hsh⟩, hfl⟩, hsl⟩ := hb
    obtain ⟨rfl, rfl⟩ := Prod.mk.inj (Option.some.inj hs)
    have p1 : 0 ≤ b := hp _ (by simp)
    have p2 : b ≤ (g.xs.length : Int) := hp _ (by simp)
    have hv := one_val h hx
    simp only [leafR] at hv
    obtain ⟨e0, ie, z, hu, hie, hsz, _⟩ := slOf_ok hE hsl
    have hu' := elem_of hu
    have hel0 : P.elem t = e0 := by simp [Program.elem, hu]
    have hreg := h.regs r g hg
    rw [regR_shal hsh, if_neg (by rw [hfz]; simp)] at hreg
    simp only [repL] at hreg
    obtain ⟨cs, hrow, _, _⟩ := hreg
    obtain ⟨A, cap, hrv⟩ : ∃ A cap, G.rv r = .slice A g.xs.length cap := by
      unfold regRow at hrow
      rw [if_pos (by simp)] at hrow
      rcases hrow with ⟨h0, A, hv⟩ | ⟨g0, cap, cur, fr, hv, _⟩
      · exact ⟨A, 0, by rw [hv]; congr 1; exact h0.symm⟩
      · exact ⟨_, cap, hv⟩
    refine opOk_one h (v := sliced A b.toNat g.xs.length cap g.ls.length) ?_ ?_
    · have hszr : (sizeOf (P.elem t)).run P w = .ok g.ls.length w := by simp [hel0, sizeOf, typeInfo, hie, hsz]
      have hrun := run_slice_l (P := P) w t A g.xs.length cap hu' k b p1 p2
      rw [hszr] at hrun
      simp only [Result.andThen_ok] at hrun
      simp [execOp, ho, hv.2.1, hrv, int_val h hh, run_sliceAt_slice _ _ _ _ _ _ hu', hrun]
    · simp only [leafR]
      refine ⟨reg?_some hg, rfl, fun g' hg' => ?_⟩
      rw [hg] at hg'
      injection hg' with hg'
      subst hg'
      exact ⟨p1, p2, A, _, cap, hrv, rfl⟩
  · cases hs
theorem zeroCells_seg {z : Array Value} {m i : Nat} (hi : i < m) : ((Builtin.zeroCells z m).toList.drop (i * z.size)).take z.size = z.toList := by
  apply List.ext_getElem?
  intro j
  rw [List.getElem?_take]
  split
  · next hj =>
    rw [List.getElem?_drop, Array.getElem?_toList, Array.getElem?_toList]
    have hlt : i * z.size + j < m * z.size := by
      have := Nat.mul_le_mul_right z.size hi
      rw [Nat.succ_mul] at this
      omega
    simp only [Builtin.zeroCells, Array.getElem?_map, Array.getElem?_range, hlt, if_true, Option.map_some]
    have hmod : (i * z.size + j) % z.size = j := by
      rw [Nat.mul_comm, Nat.mul_add_mod]
      exact Nat.mod_eq_of_lt hj
    rw [hmod]
    simp [hj]
  · next hj => rw [List.getElem?_eq_none (by simp; omega)]
theorem clearReg_ok (hE : EnvOk P E) (h : Rel F G σ a.tmps w) {c : Call} {x : Operand} {t : TypeId} {l : Leaf} (ho : o.op = .call c) (hc : c.callee = .builtin .clear) (hargs : c.args.toList = [x]) (hx : σ.op x = .cell l) (hty : c.argTypes.toList = [t]) {ps : List Prop}
    (hs : clearReg E σ o.dst t l = some (ps, σ')) (hp : ∀ p ∈ ps, p) : OpOk P o a w (Next F σ' a o.dst) := by
  unfold clearReg at hs
  split at hs
  · next r i =>
    obtain ⟨g, hg, hs⟩ := Option.bind_eq_some_iff.1 hs
    obtain ⟨hb, hs⟩ := bif_some hs
    simp only [Bool.and_eq_true, Bool.not_eq_true'] at hb
    obtain ⟨⟨⟨hfz, hsh⟩, hfl⟩, hsl⟩ := hb
    obtain ⟨rfl, rfl⟩ := Prod.mk.inj (Option.some.inj hs)
    have hv := op_ok h x
    rw [hx] at hv
    simp only [slotR, leafR] at hv
    obtain ⟨_, _, hv⟩ := hv
    obtain ⟨i0, i1, A, n, cap, hrv, hv⟩ := hv g hg
    obtain ⟨e0, ie, z, hu, hie, hsz, hz, hzb, hne⟩ := slOf_ok hE hsl
    have hvs1 : c.args = #[x] := Array.ext' (by simpa using hargs)
    have hvs2 : c.argTypes = #[t] := Array.ext' (by simpa using hty)
    have hreg0 := h.regs r g hg
    have hreg := hreg0
    rw [regR_shal hsh, if_neg (by rw [hfz]; simp)] at hreg
    simp only [repL] at hreg
    obtain ⟨cs, hrow, hlen, hel⟩ := hreg
    have hlen' : cs.length = g.xs.length * g.ls.length := hlen
    have hnx : n = g.xs.length := by
      unfold regRow at hrow
      rw [if_pos (by simp)] at hrow
      rcases hrow with ⟨h0, A', hv'⟩ | ⟨g0, cap', cur, fr, hv', _⟩
      · rw [hrv] at hv'
        injection hv' with _ e _
        rw [e]; exact h0.symm
      · rw [hrv] at hv'
        injection hv' with _ e _
    obtain ⟨m, hm⟩ : ∃ m : Nat, i = (m : Int) := ⟨i.toNat, by omega⟩
    subst hm
    simp only [Int.toNat_natCast] at hv
    have hmn : m ≤ g.xs.length := by omega
    -- the end
    have hfin : ∀ w' G' σ1, Rel F G' σ1 a.tmps w' → (execOp a.eval o).run P w = .ok (.value (.tuple #[])) w' → OpOk P o a w (Next F (σ1.setSlot o.dst (.tup [])) a o.dst) := fun w' G' σ1 hR hrun => by
      refine opOk_value (w' := w') (v := .tuple #[]) hrun ⟨G', by rw [put_tmps]; exact hR.setSlot (Like.refl _) (by simp [slotR, slotsR])⟩
    rcases Nat.eq_or_lt_of_le hmn with hmn | hmn
    · -- nothing to clear
      have e : (List.take (Int.toNat (m : Int)) g.xs ++ List.replicate (Nat.sub g.xs.length (Int.toNat (m : Int))) (dflts g.ls)) = g.xs := by
        rw [Int.toNat_natCast, hmn, List.take_length]
        show g.xs ++ List.replicate (g.xs.length - g.xs.length) _ = g.xs
        simp
      rw [e]
      have hsame : Rel F G (σ.setReg r (some g)) a.tmps w := by
        have k : Keep F G σ w G (σ.setReg r (some g)) w := {
          below := BelowO.refl _ _
          st := fun b hb => ⟨hb, rfl⟩
          bx := fun b hb => ⟨hb, rfl⟩
          rg := fun r' hr' => by
            refine ⟨by rw [setReg_look]; exact isSome_if hr', rfl, fun g' hg' => ?_⟩
            rw [setReg_reg?] at hg'
            split at hg'
            · next e => subst e; injection hg' with hg'; subst hg'; exact ⟨g, hg, rfl, rfl⟩
            · exact ⟨g', hg', rfl, rfl⟩ }
        refine h.next k h.col (fun b c hc => .inl ⟨hc, rfl, rfl⟩) (fun r' g' hg' => ?_) (fun i => .inl ⟨rfl, rfl⟩) h.nslots
        rw [setReg_reg?] at hg'
        split at hg'
        · next e => subst e; injection hg' with hg'; subst hg'; exact .inl ⟨hg, .inr fun b p hb _ => ⟨hb, rfl⟩⟩
        · exact .inl ⟨hg', .inr fun b p hb _ => ⟨hb, rfl⟩⟩
      refine hfin w G _ hsame ?_
      have hv0 : a.eval x = .slice (if cap = m then A else A.map (·.add (m * g.ls.length))) 0 (cap - m) := by
        rw [hv]
        unfold sliced
        rw [hnx, ← hmn, Nat.sub_self]
      have hclr : ∀ ty, (Builtin.clear_ #[t] ty #[a.eval x]).run P w = .ok (.tuple #[]) w := fun ty => by
        rw [hv0]
        generalize (if cap = m then A else A.map (·.add (m * g.ls.length))) = A'
        cases A' <;> simp [Builtin.clear_, run_underlying hu]
      simp [execOp, ho, resolve, hc, invoke, builtin, hvs1, hvs2, hclr]
    · unfold regRow at hrow
      rw [if_pos (by simp)] at hrow
      rcases hrow with ⟨h0, _⟩ | ⟨g0, cap0, cur, fr, hv1, hc0, hh, b1, b2, b3, b4, b5, b6⟩
      · have h0' : g.xs.length = 0 := h0
        omega
      · rw [hrv] at hv1
        injection hv1 with e1 e2 e3
        subst e1 e3
        have b1' : g.xs.length ≤ cap := b1
        have b3' : cur.size = cap * g.ls.length := b3
        have b4' : cur.toList.take (g.xs.length * g.ls.length) = cs := b4
        have b6' : fr.1 = fr.2 ∨ g.xs.length * g.ls.length ≤ fr.1 := b6
        have hzl : z.cells.size = g.ls.length := by
          have := repLs_length (zeroB_ok (S := fun _ => True) (w := w) (p := []) (i := 0) (o := 0) hzb)
          simpa using this
        have hlp : 0 < g.ls.length := List.length_pos_iff.2 hne
        let vs := (Builtin.zeroCells z.cells (g.xs.length - m)).toList
        have hvl : vs.length = (g.xs.length - m) * g.ls.length := by
          simp only [vs, Builtin.zeroCells, Array.length_toList, Array.size_map, Array.size_range, hzl]
        have hsplit : m * g.ls.length + (g.xs.length - m) * g.ls.length = g.xs.length * g.ls.length := by
          rw [← Nat.add_mul]
          congr 1
          omega
        have hcapm : g.xs.length * g.ls.length ≤ cap * g.ls.length := Nat.mul_le_mul_right _ b1'
        have hz1 : ∀ u ∈ vs, u.oneCell' = true := by
          have hzz : ∀ u ∈ z.cells.toList, u.oneCell' = true := repLs_one roRow_one (zeroB_ok (S := fun _ => True) (w := w) (p := []) (i := 0) (o := 0) hzb)
          intro u hu
          obtain ⟨j, hj, rfl⟩ := List.mem_iff_getElem.1 hu
          have hj' : j < (g.xs.length - m) * g.ls.length := by rw [← hvl]; exact hj
          have hmod : j % z.cells.size < z.cells.size := Nat.mod_lt _ (by omega)
          simp only [vs, Builtin.zeroCells, Array.toList_map, List.getElem_map, Array.toList_range, List.getElem_range]
          rw [getElem!_pos z.cells _ hmod]
          exact hzz _ (by simp)
        obtain ⟨w', hrun, hoff, hh'⟩ := run_storeCells_any P g0 g.e fr (m * g.ls.length) vs 0 cur w hh (by rw [hvl]; omega) hz1 (b6'.imp_right fun q => by rw [hvl]; omega)
        have hsz2 : (List.take (Int.toNat (m : Int)) g.xs ++ List.replicate (Nat.sub g.xs.length (Int.toNat (m : Int))) (dflts g.ls)).length = g.xs.length := by
          rw [Int.toNat_natCast, List.length_append, List.length_take, List.length_replicate]
          show min m g.xs.length + (g.xs.length - m) = _
          omega
        generalize hys : (List.take (Int.toNat (m : Int)) g.xs ++ List.replicate (Nat.sub g.xs.length (Int.toNat (m : Int))) (dflts g.ls)) = ys at hsz2
        have hget : ∀ j, ys[j]? = if j < m then g.xs[j]? else if j < g.xs.length then some (dflts g.ls) else none := fun j => by
          rw [← hys, Int.toNat_natCast]
          have hlt : (g.xs.take m).length = m := by rw [List.length_take]; omega
          rw [List.getElem?_append, hlt]
          split
          · next hj => rw [List.getElem?_take, if_pos hj]
          · next hj =>
            show (List.replicate (g.xs.length - m) (dflts g.ls))[j - m]? = _
            rw [List.getElem?_replicate]
            by_cases hj2 : j < g.xs.length
            · rw [if_pos (by omega), if_pos hj2]
            · rw [if_neg (by omega), if_neg hj2]
        have k : Keep F G σ w G (σ.setReg r (some { g with xs := ys })) w' := h.oneOff hc0 hoff (fun b' hb' => hb') (fun r' hr' => by
          refine ⟨by rw [setReg_look]; exact isSome_if hr', fun g' hg' => ?_⟩
          rw [setReg_reg?] at hg'
          split at hg'
          · next e => subst e; injection hg' with hg'; subst hg'; exact ⟨g, hg, rfl, hsz2⟩
          · exact ⟨g', hg', rfl, rfl⟩)
        have hR : Rel F G (σ.setReg r (some { g with xs := ys })) a.tmps w' := by
          refine h.next k (fun b' hb' => by rw [hoff.size]; exact h.col b' hb') (fun b' c'' hc' => ?_) (fun r' g' hg' => ?_) (fun i => .inl ⟨rfl, rfl⟩) h.nslots
          · obtain ⟨t', cur', d1, d2, _⟩ := h.boxes b' c'' hc'
            refine .inl ⟨hc', rfl, hoff.heap _ fun e' => ?_⟩
            rw [e', hc0] at d2
            simp at d2
          · rw [setReg_reg?] at hg'
            by_cases e : r = r'
            · subst e
              rw [if_pos rfl] at hg'
              injection hg' with hg'
              subst hg'
              refine .inr ⟨holesIn_nil (shal_noH hsh), ?_⟩
              rw [regR_shal (g := { g with xs := ys }) hsh]
              simp only [hfz, Bool.false_eq_true, if_false, repL]
              refine ⟨setAll cs (m * g.ls.length) vs, ?_, by rw [length_setAll, hlen']; exact congrArg (· * g.ls.length) hsz2.symm, fun j x hx => ?_⟩
              · unfold regRow
                rw [if_pos (by simp)]
                refine .inr ⟨g0, cap, _, fr, by rw [hrv, hnx]; exact congrArg (fun n => Value.slice _ n cap) hsz2.symm, hc0, hh', by show ys.length ≤ cap; rw [hsz2]; exact b1', b2, by simp [length_setAll]; exact b3', ?_, b5, by
                  show fr.1 = fr.2 ∨ ys.length * g.ls.length ≤ fr.1
                  rw [hsz2]; exact b6'⟩
                show List.take (ys.length * g.ls.length) _ = _
                rw [hsz2, ← b4']
                simp only [Nat.add_zero]
                have key : ∀ (vs cs : List Value) (o n : Nat), o + vs.length ≤ n → (setAll cs o vs).take n = setAll (cs.take n) o vs := by
                  intro vs
                  induction vs with
                  | nil => intros; rfl
                  | cons v vs ih =>
                    intro cs o n hn
                    simp only [List.length_cons] at hn
                    simp only [setAll]
                    rw [ih _ _ _ (by omega), List.take_set]
                exact key vs cur.toList _ _ (by rw [hvl]; omega)
              · have hx' : ys[j]? = some x := hx
                rw [hget j] at hx'
                by_cases hj : j < m
                · rw [if_pos hj] at hx'
                  have hseg : ((setAll cs (m * g.ls.length) vs).drop (j * g.ls.length)).take g.ls.length = (cs.drop (j * g.ls.length)).take g.ls.length := by
                    have hjm : (j + 1) * g.ls.length ≤ m * g.ls.length := Nat.mul_le_mul_right _ hj
                    rw [Nat.add_mul] at hjm
                    apply List.ext_getElem?
                    intro q
                    rw [List.getElem?_take, List.getElem?_take]
                    split
                    · next hq =>
                      rw [List.getElem?_drop, List.getElem?_drop, setAll_get vs cs _ _ (by rw [hvl, hlen']; omega), if_neg (by omega)]
                    · rfl
                  rw [hseg]
                  refine repLs_map (fun l o e sz n v cs hq => ?_) (hel j x hx')
                  unfold regRow at hq ⊢
                  rw [if_neg (by simp)] at hq ⊢
                  exact ro_keep k hq
                · rw [if_neg hj] at hx'
                  split at hx'
                  · next hj2 =>
                    injection hx' with hx'
                    subst hx'
                    have hseg : ((setAll cs (m * g.ls.length) vs).drop (j * g.ls.length)).take g.ls.length = z.cells.toList := by
                      rw [← zeroCells_seg (z := z.cells) (m := g.xs.length - m) (i := j - m) (by omega)]
                      apply List.ext_getElem?
                      intro q
                      rw [hzl, List.getElem?_take, List.getElem?_take]
                      split
                      · next hq =>
                        have hjm : m * g.ls.length + (j - m) * g.ls.length = j * g.ls.length := by
                          rw [← Nat.add_mul]
                          congr 1
                          omega
                        have hjn : (j + 1) * g.ls.length ≤ g.xs.length * g.ls.length := Nat.mul_le_mul_right _ hj2
                        rw [Nat.add_mul] at hjn
                        rw [List.getElem?_drop, List.getElem?_drop, setAll_get vs cs _ _ (by rw [hvl, hlen']; omega), if_pos ⟨by omega, by rw [hvl]; omega⟩]
                        congr 1
                        omega
                      · rfl
                    rw [hseg]
                    exact repLs_flat (R := roRow w' (fun _ => True)) hfl (zeroB_ok (p := []) (i := 0) (o := 0) hzb)
                  · cases hx'
            · rw [if_neg e] at hg'
              refine .inl ⟨hg', .inr fun b' p' hb' hp => ⟨hb', hoff.heap b' fun e' => ?_⟩⟩
              rw [e', hc0] at hb'
              injection hb' with hb'
              subst hb'
              obtain ⟨l2, hl2⟩ := hp
              have : l2 = [] := by
                have := congrArg List.length hl2
                simp only [List.length_cons, List.length_nil, List.length_append] at this
                exact List.eq_nil_of_length_eq_zero (by omega)
              subst this
              simp at hl2
              exact e hl2
        refine hfin w' G _ hR ?_
        have hcm : cap ≠ m := by omega
        have hv0 : a.eval x = .slice (some ⟨g0, m * g.ls.length, none⟩) (g.xs.length - m) (cap - m) := by
          rw [hv]
          unfold sliced
          rw [if_neg hcm, hnx, Option.map_some, addr_add]
        obtain ⟨q, hq⟩ : ∃ q, g.xs.length - m = q + 1 := ⟨g.xs.length - m - 1, by omega⟩
        have hclr : ∀ ty, (Builtin.clear_ #[t] ty #[a.eval x]).run P w = .ok (.tuple #[]) w' := fun ty => by
          rw [hv0]
          have hzv : (zeroValue e0).run P w = .ok z w := by simp [zeroValue, typeInfo, hie, hz]
          have hrun' : (storeCells ⟨g0, m * g.ls.length, none⟩ (Builtin.zeroCells z.cells (q + 1)).toList 0).run P w = .ok () w' := by
            rw [← hq]; exact hrun
          rw [hq]
          simp [Builtin.clear_, run_underlying hu, hzv, hrun']
        simp [execOp, ho, resolve, hc, invoke, builtin, hvs1, hvs2, hclr]
  · cases hs
theorem callQ_ok (hC : EnvCts P E F.w0 F.n0) (h : Rel F G σ a.tmps w) {c : Call} {f : Operand} (ho : o.op = .call c) (hcal : c.callee = .value f) {g : FuncId} {cs : List Leaf} (hf : σ.op f = .cell (.clo g cs)) {id : Nat} {ps : List Prop}
    (hs : stepQs σ o.dst id g (app (mp σ.op c.args.toList) (mp .cell cs)) E.ms = some (ps, σ')) (hp : ∀ p ∈ ps, p) : OpOk P o a w (Next F σ' a o.dst) := by
  have hv := op_ok h f
  rw [hf] at hv
  simp only [slotR, leafR] at hv
  obtain ⟨cvs, hv, hcvs⟩ := hv
  have hss := slotsR_app (args_ok h c.args.toList) (slotsR_leafs hcvs)
  obtain ⟨⟨fn, hfn, hname, hbody⟩, hcalls⟩ := stepQs_ok h hss hp (fun c hc => hC.2 c hc w h.below.below) hs
  have hargs : c.args.map a.eval ++ cvs.toArray = (c.args.toList.map a.eval ++ cvs).toArray := by
    apply Array.ext'
    simp
  have hrun : (execOp a.eval o).run P w = .ok (.enter g (c.args.map a.eval ++ cvs.toArray)) w := by
    have hn : ¬ fn.name = "runtime.NumGoroutine" := by simpa using hname
    have hb : ¬ fn.body = none := fun e => by rw [e] at hbody; cases hbody
    simp [execOp, ho, resolve, hcal, hv, Deferred.ofValue, invoke, callFunc, hfn, hn, hb]
  unfold OpOk
  rw [hrun, hargs]
  exact hcalls
theorem stepX_ok (hE : EnvOk P E) (hC : EnvCts P E F.w0 F.n0) (h : Rel F G σ a.tmps w) {id : Nat} {ps : List Prop} (hs : stepX E σ id o.dst o.op = some (ps, σ')) (hp : ∀ p ∈ ps, p) : OpOk P o a w (Next F σ' a o.dst) := by
  unfold stepX at hs
  split at hs
  · next t x hi ho =>
    obtain ⟨l, hl, hs⟩ := Option.bind_eq_some_iff.1 hs
    obtain ⟨⟨k, b⟩, hb, hs⟩ := Option.bind_eq_some_iff.1 hs
    exact cutReg_ok hE h ho hl hb hs hp
  · next t x lo ho =>
    obtain ⟨l, hl, hs⟩ := Option.bind_eq_some_iff.1 hs
    obtain ⟨⟨k, b⟩, hb, hs⟩ := Option.bind_eq_some_iff.1 hs
    exact tailReg_ok hE h ho hl hb hs hp
  · next c ho =>
    split at hs
    · next l hc hm =>
      split at hs
      · next t ht =>
        obtain ⟨x, hx, hxl⟩ : ∃ x, c.args.toList = [x] ∧ σ.op x = .cell l := by
          cases hcl : c.args.toList with
          | nil => rw [hcl] at hm; simp [mp] at hm
          | cons x xs =>
            cases xs with
            | nil => rw [hcl] at hm; exact ⟨x, rfl, by simpa [mp] using hm⟩
            | cons y ys => rw [hcl] at hm; simp [mp] at hm
        exact clearReg_ok hE h ho hc hx hxl ht hs hp
      · cases hs
    · next _ ss f hc =>
      split at hs
      · next g cs hf =>
        exact callQ_ok hC h ho hc hf hs hp
      · cases hs
    · cases hs
  · cases hs
end
end Go.Ev
end
