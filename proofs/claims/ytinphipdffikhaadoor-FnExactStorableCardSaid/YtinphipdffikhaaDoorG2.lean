/- A small verified machine for the operations of the given program, and plain laws of what its functions compute; without conditions of its own. Part 3. -/
import Derived.Test.YtinphipdffikhaaDoorG1
import Derived.ChangeArms
import Derived.Deep.Slices
import Derived.DataReads
import Derived.WideShapes
import Derived.Lib.SlTrimSet
import Derived.Lib.Bytealg
import Derived.Lib.IndexMore
import Derived.Lib.Join
import Derived.Lib.ItoaMem
import Derived.Lib.ItoaLen
set_option linter.unusedVariables false
set_option linter.unusedSimpArgs false
section
/- What is read as data stands in memory as typed values: by a check on the type table alone. -/
set_option linter.unusedVariables false
namespace Go.Ev
open Go.RowKit

mutual
/-- Data that is read is fine: numbers in their range, lengths in theirs. -/
def wf : (t : L) → t.den → Prop
  | .int k, x => (Lit.int k x).wf = true
  | .bool, _ => True
  | .str, s => ByteArray.size s ≤ maxLen
  | .list _ ls, xs => List.length (α := L.dens ls) xs ≤ maxLen ∧ ∀ (i : Nat) (x : L.dens ls), gt (α := L.dens ls) xs i = some x → wfs ls x
def wfs : (ls : List L) → L.dens ls → Prop
  | [], _ => True
  | [t], x => wf t x
  | t :: t' :: ts, x => wf t x.1 ∧ wfs (t' :: ts) x.2
end
theorem wfs_cons {t : L} {ts : List L} {x : dens (t :: ts)} : wfs (t :: ts) x ↔ wf t (hd x) ∧ wfs ts (tl x) := by
  cases ts with
  | nil => simp [wfs, hd]
  | cons t' ts => simp [wfs, hd, tl]
def dapp : {l m : List L} → dens l → dens m → dens (l ++ m)
  | [], _, _, y => y
  | t :: ts, _, x, y => mk (hd x) (dapp (tl x) y)
theorem repLs_app {R : Rw} : ∀ {l m : List L} {p : Col} {i o : Nat} {x : dens l} {y : dens m} {cs ds : List Value}, repLs R l p i o x cs → repLs R m p i (o + l.length) y ds → repLs R (l ++ m) p i o (dapp x y) (cs ++ ds)
  | [], m, p, i, o, x, y, cs, ds, h, h' => by
    simp only [repLs] at h
    subst h
    simpa [dapp] using h'
  | t :: ts, m, p, i, o, x, y, cs, ds, h, h' => by
    obtain ⟨v, cs', rfl, h1, h2⟩ := repLs_cons.1 h
    refine repLs_cons.2 ⟨v, cs' ++ ds, rfl, ?_, ?_⟩
    · simp only [dapp, hd_mk]; exact h1
    · simp only [dapp, tl_mk]
      exact repLs_app h2 (by rwa [List.length_cons, show o + (ts.length + 1) = o + 1 + ts.length by omega] at h')
theorem wfs_app : ∀ {l m : List L} {x : dens l} {y : dens m}, wfs l x → wfs m y → wfs (l ++ m) (dapp x y)
  | [], _, _, _, _, h => h
  | t :: ts, m, x, y, h, h' => by
    obtain ⟨h1, h2⟩ := wfs_cons.1 h
    refine wfs_cons.2 ⟨?_, ?_⟩
    · simp only [dapp, hd_mk]; exact h1
    · simp only [dapp, tl_mk]; exact wfs_app h2 h'

def fieldsOp (P : Program) (f : TypeId → List L → Bool) : List Field → Nat → List L → Bool
  | [], _, [] => true
  | [], _, _ :: _ => false
  | fd :: fs, o, ls => Nat.beq fd.offset o && f fd.type (ls.take (P.cellsOf fd.type)) && fieldsOp P f fs (o + (ls.take (P.cellsOf fd.type)).length) (ls.drop (P.cellsOf fd.type))
def opB (P : Program) : Nat → TypeId → List L → Bool
  | 0, _, _ => false
  | n + 1, t, ls => Nat.beq (P.cellsOf t) ls.length && (match P.underlying t with
    | some (.int k) => (match ls with
      | [.int k'] => kEq k k'
      | _ => false)
    | some .bool => (match ls with
      | [.bool] => true
      | _ => false)
    | some .string => (match ls with
      | [.str] => true
      | _ => false)
    | some (.slice e) => (match ls with
      | [.list e' ls'] => Nat.beq e e' && opB P n e ls'
      | _ => false)
    | some (.struct fs) => fieldsOp P (opB P n) fs.toList 0 ls
    | _ => false)

structure Opn (P : Program) (t : TypeId) (ls : List L) : Prop where
  size : P.cellsOf t = ls.length
  op : ∀ {H : Type} {enc : TypeId × Value → H} {w : World} {base : Nat} {spare : Nat → Bool} {held : Bool} (fuel : Nat) (cs : List Value) (x : DataW H × List MemPlace),
    DataW.trod enc P w base spare held fuel t cs = some x → ∃ y : dens ls, repLs (roRow w (now w)) ls [] 0 0 y cs ∧ wfs ls y
theorem list_choose {α : Type} {n : Nat} {q : Nat → α → Prop} (h : ∀ i, i < n → ∃ y, q i y) : ∃ ys : List α, ys.length = n ∧ ∀ i y, ys[i]? = some y → q i y := by
  induction n with
  | zero => exact ⟨[], rfl, fun i y hy => by simp at hy⟩
  | succ n ih =>
    obtain ⟨ys, hl, hys⟩ := ih (fun i hi => h i (by omega))
    obtain ⟨y, hy⟩ := h n (by omega)
    refine ⟨ys ++ [y], by simp [hl], fun i z hz => ?_⟩
    by_cases hi : i < ys.length
    · rw [List.getElem?_append_left hi] at hz
      exact hys i z hz
    · rw [List.getElem?_append_right (by omega)] at hz
      by_cases he : i - ys.length = 0
      · rw [he] at hz
        simp at hz
        obtain rfl : i = n := by omega
        exact hz ▸ hy
      · obtain ⟨m, hm⟩ : ∃ m, i - ys.length = m + 1 := ⟨i - ys.length - 1, by omega⟩
        rw [hm] at hz
        simp at hz
theorem cell_now {w : World} {a : Addr} {u : Value} (h : w.cell? a = some u) : now w a.block := by
  unfold World.cell? at h
  unfold now
  rcases Nat.lt_or_ge a.block w.heap.size with h1 | h1
  · exact h1
  · rw [Array.getElem?_eq_none h1] at h
    simp at h

/-- The fields from one on, the first of which begins at cell o. -/
theorem fields_ok {P : Program} {f : TypeId → List L → Bool} (hf : ∀ t ls, f t ls = true → Opn P t ls) : ∀ {fs : List Field} {o : Nat} {ls : List L}, fieldsOp P f fs o ls = true →
    ∀ {H : Type} {enc : TypeId × Value → H} {w : World} {base : Nat} {spare : Nat → Bool} {held : Bool} (fuel : Nat) (cs : List Value), cs.length = o + ls.length →
    (∀ (i : Nat) (f : Field), fs[i]? = some f → ∃ z : DataW H × List MemPlace, DataW.trod enc P w base spare held fuel f.type ((cs.drop f.offset).take (P.cellsOf f.type)) = some z) → ∃ y : dens ls, repLs (roRow w (now w)) ls [] 0 o y (cs.drop o) ∧ wfs ls y
  | [], o, [], _ => by
    intro fuel cs hl hz
    exact ⟨(), by simp only [repLs]; apply List.eq_nil_of_length_eq_zero; rw [List.length_drop, hl]; simp, trivial⟩
  | [], o, _ :: _, h => by simp [fieldsOp] at h
  | fd :: fs, o, ls, h => by
    intro fuel cs hl hz
    rename_i H enc w base spare held
    simp only [fieldsOp, Bool.and_eq_true] at h
    obtain ⟨⟨h1, h2⟩, h3⟩ := h
    have ho := beq_nat h1
    have hO := hf _ _ h2
    obtain ⟨z, hz0⟩ := hz 0 fd rfl
    have hlen : (ls.take (P.cellsOf fd.type)).length + (ls.drop (P.cellsOf fd.type)).length = ls.length := by rw [← List.length_append, List.take_append_drop]
    rw [ho] at hz0
    obtain ⟨y, hy, hF⟩ := hO.op _ _ _ hz0
    obtain ⟨y', hy', hF'⟩ := fields_ok hf h3 fuel cs (by omega) (fun i g hg => hz (i + 1) g (by simpa using hg))
    have e : ls.take (P.cellsOf fd.type) ++ ls.drop (P.cellsOf fd.type) = ls := List.take_append_drop _ _
    have hcs : cs.drop o = (cs.drop o).take (P.cellsOf fd.type) ++ cs.drop (o + (ls.take (P.cellsOf fd.type)).length) := by
      rw [← hO.size, ← List.drop_drop, List.take_append_drop]
    have hall : ∃ y : dens (ls.take (P.cellsOf fd.type) ++ ls.drop (P.cellsOf fd.type)), repLs (roRow w (now w)) (ls.take (P.cellsOf fd.type) ++ ls.drop (P.cellsOf fd.type)) [] 0 o y (cs.drop o) ∧ wfs _ y :=
      ⟨dapp y y', by rw [hcs]; exact repLs_app (ros_off hy) hy', wfs_app hF hF'⟩
    rwa [e] at hall

theorem opn_of {P : Program} : ∀ {n : Nat} {t : TypeId} {ls : List L}, opB P n t ls = true → Opn P t ls
  | 0, _, _, h => by simp [opB] at h
  | n + 1, t, ls, h => by
    simp only [opB, Bool.and_eq_true] at h
    obtain ⟨hsz, h⟩ := h
    have hsz := beq_nat hsz
    split at h
    · next k hu =>
      split at h
      · next k' =>
        have e := kEq_eq h
        subst e
        refine ⟨hsz, fun fuel cs x hx => ?_⟩
        obtain ⟨m, rfl, _, hw⟩ := DataW.trod_int hu hx
        exact ⟨m, by simp only [repLs, repL]; exact ⟨_, rfl, rfl⟩, by simpa only [wfs, wf] using hw⟩
      · cases h
    · next hu =>
      split at h
      · refine ⟨hsz, fun fuel cs x hx => ?_⟩
        obtain ⟨m, rfl, _⟩ := DataW.trod_bool hu hx
        exact ⟨m, by simp only [repLs, repL]; exact ⟨_, rfl, rfl⟩, by simp only [wfs, wf]⟩
      · cases h
    · next hu =>
      split at h
      · refine ⟨hsz, fun fuel cs x hx => ?_⟩
        obtain ⟨m, rfl, _, hs⟩ := DataW.trod_string hu hx
        exact ⟨m, by simp only [repLs, repL]; exact ⟨_, rfl, rfl⟩, by simpa only [wfs, wf] using hs⟩
      · cases h
    · next e hu =>
      split at h
      · next e' els _ =>
        simp only [Bool.and_eq_true] at h
        have e1 := beq_nat h.1
        subst e1
        have he := opn_of h.2
        refine ⟨hsz, fun {H enc w base spare held} fuel cs x hx => ?_⟩
        rcases Deep.open_slice hu hx with ⟨rfl, _⟩ | ⟨a, len, cap, m, n', D, Pl, rfl, hb, hl, hm, hmm, _, hel⟩
        · exact ⟨([] : List (dens els)), by simp only [repLs]; exact ⟨_, rfl, nil_rep ro_nil⟩, by simp [wfs, wf, gt]⟩
        · have hle : len ≤ m := by rw [hmm]; split <;> omega
          obtain ⟨ys, hlen, hys⟩ := list_choose (n := len) (q := fun i (y : dens els) => wfs els y ∧ ∃ cs', w.cells? base (a.add (i * P.cellsOf e)) (P.cellsOf e) = some cs' ∧ repLs (roRow w (now w)) els [] 0 0 y cs') (fun i hi => by
            obtain ⟨cs', h1, h2⟩ := hel i (by omega)
            obtain ⟨y, hy, hF⟩ := he.op _ _ _ h2
            exact ⟨y, hF, cs', h1, hy⟩)
          subst hlen
          have hcell : ∀ i y, ys[i]? = some y → ∃ cs', cs'.length = els.length ∧ repLs (roRow w (now w)) els [] 0 0 y cs' ∧ ∀ j u, cs'[j]? = some u → w.cell? (a.add (i * els.length + j)) = some u := fun i y hy => by
            obtain ⟨_, cs', h1, h2⟩ := hys i y hy
            obtain ⟨_, h4⟩ := World.cells?_some h1
            have h3 := repLs_length h2
            refine ⟨cs', h3, h2, fun j u hu2 => ?_⟩
            have hj : j < cs'.length := (List.getElem?_eq_some_iff.mp hu2).1
            rw [← he.size, ← Deep.add_add]
            rw [h4.2 j (by rw [he.size]; omega), hu2]
          -- all cells
          obtain ⟨all, hal, hac⟩ := list_choose (n := ys.length * els.length) (q := fun j (u : Value) => w.cell? (a.add j) = some u) (fun j hj => by
            have hp : 0 < els.length := by
              rcases Nat.eq_zero_or_pos els.length with h0 | h0
              · rw [h0] at hj; simp at hj
              · exact h0
            have hd : j / els.length < ys.length := Nat.div_lt_of_lt_mul (by rw [Nat.mul_comm]; exact hj)
            obtain ⟨cs', c1, _, c3⟩ := hcell (j / els.length) _ (List.getElem?_eq_getElem hd)
            have hmod : j % els.length < cs'.length := by rw [c1]; exact Nat.mod_lt _ hp
            refine ⟨cs'[j % els.length], ?_⟩
            have := c3 (j % els.length) _ (List.getElem?_eq_getElem hmod)
            rwa [show j / els.length * els.length + j % els.length = j from by rw [Nat.mul_comm]; exact Nat.div_add_mod j _] at this)
          refine ⟨ys, ?_, ?_⟩
          · simp only [repLs, repL]
            refine ⟨_, rfl, all, ⟨some a, cap, rfl, hl, fun hpos => ⟨a, rfl, ?_, fun j u hu2 => hac j u hu2⟩⟩, hal, fun i y hy => ?_⟩
            · have h0 : 0 < all.length := by omega
              have := cell_now (hac 0 _ (List.getElem?_eq_getElem h0))
              rwa [block_of_add] at this
            · obtain ⟨cs', c1, c2, c3⟩ := hcell i y hy
              have hi := (List.getElem?_eq_some_iff.1 (show ys[i]? = some y from hy)).1
              have hseg : (all.drop (i * els.length)).take els.length = cs' := by
                apply List.ext_getElem?
                intro j
                rw [List.getElem?_take]
                split
                · next hj =>
                  have hbnd : i * els.length + j < all.length := by
                    rw [hal]
                    have := Nat.mul_le_mul_right els.length hi
                    rw [Nat.succ_mul] at this
                    omega
                  have hj' : j < cs'.length := by omega
                  rw [List.getElem?_drop, List.getElem?_eq_getElem hbnd, List.getElem?_eq_getElem hj']
                  have h1 := hac _ _ (List.getElem?_eq_getElem hbnd)
                  have h2 := c3 j _ (List.getElem?_eq_getElem hj')
                  rw [h1] at h2
                  exact h2
                · next hj => rw [List.getElem?_eq_none (by omega)]
              rw [hseg]
              exact ros_path c2
          · simp only [wfs, wf]
            exact ⟨by simp only [maxLen]; simp only [maxLen] at hm; omega, fun i y hy => (hys i y hy).1⟩
      · cases h
    · next fs hu =>
      refine ⟨hsz, fun {H enc w base spare held} fuel cs x hx => ?_⟩
      obtain ⟨xs, m, _, _, hl, hxs, hf⟩ := DataW.trod_struct hu hx
      obtain ⟨y, hy, hF⟩ := fields_ok (fun t ls h => opn_of h) h (enc := enc) (w := w) (base := base) (spare := spare) (held := held) m cs (by omega) (fun i f hi => by
        have hi' : fs[i]? = some f := by rw [← Array.getElem?_toList]; exact hi
        have hlt : i < xs.length := by rw [hxs]; exact (Array.getElem?_eq_some_iff.mp hi').1
        exact ⟨_, (hf i f hi').trans (List.getElem?_eq_getElem hlt)⟩)
      exact ⟨y, by simpa using hy, hF⟩
    · cases h
end Go.Ev
end

section
/- Shapes that many functions come to: the sizing, turning and comparing of slices; plain laws on them. -/
set_option linter.unusedVariables false
namespace Go.Ev

def sumN : List Nat → Nat
  | [] => 0
  | a :: l => a + sumN l
mutual
/-- How many letters and elements a value has. -/
def cost : (t : L) → t.den → Nat
  | .int _, _ => 0
  | .bool, _ => 0
  | .str, s => ByteArray.size s
  | .list _ ls, xs => List.length (α := L.dens ls) xs + sumN (List.map (α := L.dens ls) (costs ls) xs)
def costs : (ls : List L) → L.dens ls → Nat
  | [], _ => 0
  | [t], x => cost t x
  | t :: t' :: ts, x => cost t x.1 + costs (t' :: ts) x.2
end
theorem wrapI (n : Int) (h0 : -9223372036854775808 ≤ n) (h1 : n < 9223372036854775808) : IntKind.i64.wrap n = n := by
  rw [IntKind.wrap_i64]; omega
def capI : Int := 1048576
/-- What is left of a budget. -/
def leftI (c : Nat) (k : Int) : Int := if k < (c : Int) then -1 else k - (c : Int)

/-- What a sizing loop over a slice comes to. -/
def szS {α : Type} (d : α) (P : α → Int → Prop) (F : α → Int → Int) (x : List α) (k : Int) (Q : Int → Prop) : Prop :=
  (IntKind.i64.wrap (k - (x.length : Int)) < 0 → Q (-1)) ∧
  (¬ IntKind.i64.wrap (k - (x.length : Int)) < 0 → ∀ Lp : Int × Int → Prop,
    (∀ y : Int × Int, ((y.2 < (x.length : Int) → 0 ≤ y.2 ∧ y.2 < (x.length : Int) ∧ P (x.getD y.2.toNat d) y.1 ∧
        ((F (x.getD y.2.toNat d) y.1 < 0 → Q (-1)) ∧ (¬ F (x.getD y.2.toNat d) y.1 < 0 → Lp (F (x.getD y.2.toNat d) y.1, IntKind.i64.wrap (y.2 + 1))))) ∧
      (¬ y.2 < (x.length : Int) → Q y.1)) → Lp y) → Lp (IntKind.i64.wrap (k - (x.length : Int)), 0))
theorem szS_holds {α : Type} (d : α) (c : α → Nat) (W : α → Prop) (xs : List α) (k : Int) (hlen : xs.length ≤ maxLen) (hw : ∀ (i : Nat) (y : α), gt xs i = some y → W y) (h0 : 0 ≤ k) (h1 : k ≤ capI) :
    szS d (fun y k => W y ∧ 0 ≤ k ∧ k ≤ capI) (fun y k => leftI (c y) k) xs k (fun r => r = leftI (xs.length + sumN (xs.map c)) k) := by
  simp only [maxLen] at hlen
  simp only [capI] at h1
  have hwr : IntKind.i64.wrap (k - (xs.length : Int)) = k - (xs.length : Int) := wrapI _ (by omega) (by omega)
  refine ⟨fun h => ?_, fun h Lp hL => ?_⟩
  · rw [hwr] at h
    unfold leftI
    rw [if_pos (by omega)]
  · rw [hwr] at h ⊢
    have key : ∀ (m i : Nat) (k' : Int), i + m = xs.length → 0 ≤ k' → k' + (sumN ((xs.take i).map c) : Int) = k - (xs.length : Int) → Lp (k', (i : Int)) := by
      intro m
      induction m with
      | zero =>
        intro i k' hi hk0 hk1
        have hi' : i = xs.length := by omega
        refine hL _ ⟨fun hlt => ?_, fun _ => ?_⟩
        · simp only at hlt; omega
        · rw [hi', List.take_length] at hk1
          simp only [leftI]
          rw [if_neg (by omega)]
          omega
      | succ m ih =>
        intro i k' hi hk0 hk1
        have hlt : i < xs.length := by omega
        have hget : xs.getD i d = xs[i] := by rw [List.getD_eq_getElem?_getD, List.getElem?_eq_getElem hlt]; rfl
        have htake : sumN ((xs.take (i + 1)).map c) = sumN ((xs.take i).map c) + c xs[i] := by
          rw [List.take_add_one, List.getElem?_eq_getElem hlt]
          simp only [Option.toList_some, List.map_append, List.map_cons, List.map_nil]
          exact sum_snoc _ _
        have hall : sumN ((xs.take (i + 1)).map c) ≤ sumN (xs.map c) := sum_take _ _
        refine hL _ ⟨fun _ => ⟨by simp only; omega, by simp only; omega, ?_, ?_⟩, fun hn => ?_⟩
        · simp only [Int.toNat_natCast, hget, capI]
          exact ⟨hw i _ (List.getElem?_eq_getElem hlt), hk0, by omega⟩
        · simp only [Int.toNat_natCast, hget, leftI]
          by_cases hc : k' < (c xs[i] : Int)
          · rw [if_pos hc]
            refine ⟨fun _ => ?_, fun h => by omega⟩
            rw [if_pos (by omega)]
          · rw [if_neg hc]
            refine ⟨fun h => by omega, fun _ => ?_⟩
            rw [wrapI _ (by omega) (by omega)]
            exact ih (i + 1) _ (by omega) (by omega) (by omega)
        · simp only at hn; omega
    exact key xs.length 0 _ (by omega) (by omega) (by simp [sumN])
where
  sum_snoc : ∀ (l : List Nat) (a : Nat), sumN (l ++ [a]) = sumN l + a
    | [], a => by simp [sumN]
    | b :: l, a => by simp only [List.cons_append, sumN, sum_snoc l a]; omega
  sum_take {c : α → Nat} : ∀ (l : List α) (i : Nat), sumN ((l.take i).map c) ≤ sumN (l.map c)
    | [], i => by simp
    | a :: l, 0 => by simp [sumN]
    | a :: l, i + 1 => by simp only [List.take_succ_cons, List.map_cons, sumN]; have := sum_take (c := c) l i; omega

/-- What a comparing loop over two slices comes to. -/
def eqS {α : Type} (d : α) (P : α → α → Prop) (F : α → α → Bool) (x y : List α) (Q : Bool → Prop) : Prop :=
  ((x.length : Int) ≠ (y.length : Int) → Q false) ∧ (¬ (x.length : Int) ≠ (y.length : Int) → ∀ Lp : Int → Prop,
    (∀ i : Int, ((i < (x.length : Int) → 0 ≤ i ∧ i < (x.length : Int) ∧ 0 ≤ i ∧ i < (y.length : Int) ∧ P (x.getD i.toNat d) (y.getD i.toNat d) ∧
        ((¬ F (x.getD i.toNat d) (y.getD i.toNat d) = true → Q false) ∧ (¬ ¬ F (x.getD i.toNat d) (y.getD i.toNat d) = true → Lp (IntKind.i64.wrap (i + 1))))) ∧
      (¬ i < (x.length : Int) → Q true)) → Lp i) → Lp 0)
theorem eqS_holds {α : Type} (d : α) (P : α → α → Prop) (F : α → α → Bool) (x y : List α) (hlen : x.length ≤ maxLen) (hP : ∀ (i : Nat) (a b : α), gt x i = some a → P a b) (hF : ∀ a b, F a b = true ↔ a = b) {R : Bool} (hR : R = true ↔ x = y) :
    eqS d P F x y (fun r => r = R) := by
  simp only [maxLen] at hlen
  have hf : ∀ {p : Prop}, (p → ¬ x = y) → p → false = R := fun h hp => by
    cases R with
    | false => rfl
    | true => exact absurd (hR.1 rfl) (h hp)
  refine ⟨fun h => hf (p := True) (fun _ e => h (by rw [e])) trivial, fun h Lp hL => ?_⟩
  have hl : x.length = y.length := by
    have : (x.length : Int) = (y.length : Int) := Classical.byContradiction h
    omega
  have key : ∀ (m i : Nat), i + m = x.length → x.take i = y.take i → Lp (i : Int) := by
    intro m
    induction m with
    | zero =>
      intro i hi ht
      refine hL _ ⟨fun hlt => by omega, fun _ => ?_⟩
      rw [show i = x.length by omega, List.take_length, hl, List.take_length] at ht
      exact (hR.2 ht).symm
    | succ m ih =>
      intro i hi ht
      have hlt : i < x.length := by omega
      have hlt' : i < y.length := by omega
      have hgx : x.getD i d = x[i] := by rw [List.getD_eq_getElem?_getD, List.getElem?_eq_getElem hlt]; rfl
      have hgy : y.getD i d = y[i] := by rw [List.getD_eq_getElem?_getD, List.getElem?_eq_getElem hlt']; rfl
      refine hL _ ⟨fun _ => ?_, fun hn => by omega⟩
      simp only [Int.toNat_natCast, hgx, hgy]
      refine ⟨by omega, by omega, by omega, by omega, hP i _ _ (List.getElem?_eq_getElem hlt), fun hne => ?_, fun heq => ?_⟩
      · refine hf (p := ¬ F x[i] y[i] = true) (fun h e => h ((hF _ _).2 ?_)) hne
        subst e
        rfl
      · rw [wrapI _ (by omega) (by omega)]
        have he : x[i] = y[i] := (hF _ _).1 (Classical.byContradiction heq)
        refine ih (i + 1) (by omega) ?_
        rw [List.take_add_one, List.take_add_one, ht, List.getElem?_eq_getElem hlt, List.getElem?_eq_getElem hlt', he]
  exact key x.length 0 (by omega) (by simp)

/-- What a turning loop over a slice comes to. -/
def toS {α : Type} (d : α) (b : Nat) (P : α → Prop) (x : List α) (Q : List α → Prop) : Prop :=
  (x.length : Int) = (x.length : Int) ∧ 0 ≤ (x.length : Int) ∧ (x.length : Int) * (b : Int) ≤ 140737488355328 ∧ ∀ Lp : List α × Int → Prop,
    (∀ y : List α × Int, ((y.2 < (x.length : Int) → 0 ≤ y.2 ∧ y.2 < (x.length : Int) ∧ P (x.getD y.2.toNat d) ∧ 0 ≤ y.2 ∧ y.2 < (y.1.length : Int) ∧ Lp (y.1.set y.2.toNat (x.getD y.2.toNat d), IntKind.i64.wrap (y.2 + 1))) ∧
      (¬ y.2 < (x.length : Int) → Q y.1)) → Lp y) → Lp (List.replicate (x.length : Int).toNat d, 0)
theorem toS_holds {α : Type} (d : α) (b : Nat) (P : α → Prop) (x : List α) (hlen : x.length ≤ 1048576) (hb : b ≤ 1048576) (hP : ∀ (i : Nat) (a : α), gt x i = some a → P a) {Q : List α → Prop} (hQ : Q x) : toS d b P x Q := by
  have hmul : x.length * b ≤ 1048576 * 1048576 := Nat.mul_le_mul hlen hb
  refine ⟨rfl, by omega, by rw [← Int.natCast_mul]; omega, fun Lp hL => ?_⟩
  have key : ∀ (m i : Nat), i + m = x.length → Lp (x.take i ++ List.replicate m d, (i : Int)) := by
    intro m
    induction m with
    | zero =>
      intro i hi
      refine hL _ ⟨fun hlt => by simp only at hlt; omega, fun _ => ?_⟩
      simp only [List.replicate_zero, List.append_nil]
      rw [show i = x.length by omega, List.take_length]
      exact hQ
    | succ m ih =>
      intro i hi
      have hlt : i < x.length := by omega
      have hgx : x.getD i d = x[i] := by rw [List.getD_eq_getElem?_getD, List.getElem?_eq_getElem hlt]; rfl
      refine hL _ ⟨fun _ => ?_, fun hn => by simp only at hn; omega⟩
      simp only [Int.toNat_natCast, hgx]
      refine ⟨by omega, by omega, hP i _ (List.getElem?_eq_getElem hlt), by omega, by simp only [List.length_append, List.length_take, List.length_replicate]; omega, ?_⟩
      rw [wrapI _ (by omega) (by omega)]
      have hset : (x.take i ++ List.replicate (m + 1) d).set i x[i] = x.take (i + 1) ++ List.replicate m d := by
        rw [List.set_append_right _ _ (by rw [List.length_take]; omega), List.length_take, show i - min i x.length = 0 by omega, List.replicate_succ, List.set_cons_zero, show x.take (i + 1) = x.take i ++ [x[i]] from by rw [List.take_add_one, List.getElem?_eq_getElem hlt]; rfl, List.append_assoc]
        rfl
      rw [hset]
      exact ih (i + 1) (by omega)
  have := key x.length 0 (by omega)
  simpa using this

/-! ### Sizing a struct -/
inductive SzStep (α : Type) where
  | str (g : α → ByteArray)
  | call (W : α → Prop) (c : α → Nat)
/-- What the sizing of a struct comes to: field by field. -/
def szSt {α : Type} (x : α) : List (SzStep α) → Int → (Int → Prop) → Prop
  | [], k, Q => Q k
  | .str g :: r, k, Q => (IntKind.i64.wrap (k - ((g x).size : Int)) < 0 → Q (-1)) ∧ (¬ IntKind.i64.wrap (k - ((g x).size : Int)) < 0 → szSt x r (IntKind.i64.wrap (k - ((g x).size : Int))) Q)
  | .call W c :: r, k, Q => (W x ∧ 0 ≤ k ∧ k ≤ capI) ∧ ((leftI (c x) k < 0 → Q (-1)) ∧ (¬ leftI (c x) k < 0 → szSt x r (leftI (c x) k) Q))
def szSum {α : Type} (x : α) : List (SzStep α) → Nat
  | [] => 0
  | .str g :: r => (g x).size + szSum x r
  | .call _ c :: r => c x + szSum x r
def szFine {α : Type} (x : α) : List (SzStep α) → Prop
  | [] => True
  | .str g :: r => wf .str (g x) ∧ szFine x r
  | .call W _ :: r => W x ∧ szFine x r
theorem szSt_holds {α : Type} (x : α) : ∀ (l : List (SzStep α)) (k : Int) (n : Nat), szFine x l → 0 ≤ k → k ≤ capI → szSum x l = n → szSt x l k (fun r => r = leftI n k)
  | [], k, n, _, h0, h1, hn => by
    simp only [szSum] at hn
    subst hn
    simp only [szSt, leftI]
    rw [if_neg (by omega)]
    omega
  | .str g :: r, k, n, hf, h0, h1, hn => by
    simp only [szFine, wf, maxLen] at hf
    simp only [szSum] at hn
    simp only [capI] at h1
    have hw := wrapI (k - ((g x).size : Int)) (by omega) (by omega)
    simp only [szSt, hw]
    refine ⟨fun h => ?_, fun h => ?_⟩
    · unfold leftI
      rw [if_pos (by omega)]
    · have := szSt_holds x r (k - ((g x).size : Int)) (szSum x r) hf.2 (by omega) (by simp only [capI]; omega) rfl
      have e : leftI (szSum x r) (k - ((g x).size : Int)) = leftI n k := by
        unfold leftI
        by_cases hc : k - ((g x).size : Int) < (szSum x r : Int)
        · rw [if_pos hc, if_pos (by omega)]
        · rw [if_neg hc, if_neg (by omega)]; omega
      rwa [e] at this
  | .call W c :: r, k, n, hf, h0, h1, hn => by
    simp only [szFine] at hf
    simp only [szSum] at hn
    simp only [szSt]
    refine ⟨⟨hf.1, h0, h1⟩, fun h => ?_, fun h => ?_⟩
    · unfold leftI at h ⊢
      by_cases hc : k < (c x : Int)
      · rw [if_pos (by omega)]
      · rw [if_neg hc] at h; omega
    · have hk : leftI (c x) k = k - (c x : Int) := by
        unfold leftI at h ⊢
        by_cases hc : k < (c x : Int)
        · rw [if_pos hc] at h; omega
        · rw [if_neg hc]
      rw [hk] at h ⊢
      simp only [capI] at h1
      have := szSt_holds x r (k - (c x : Int)) (szSum x r) hf.2 (by omega) (by simp only [capI]; omega) rfl
      have e : leftI (szSum x r) (k - (c x : Int)) = leftI n k := by
        unfold leftI
        by_cases hc : k - (c x : Int) < (szSum x r : Int)
        · rw [if_pos hc, if_pos (by omega)]
        · rw [if_neg hc, if_neg (by omega)]; omega
      rwa [e] at this
/-! ### Comparing structs -/
inductive EqStep (α : Type) where
  | ne (p : α → α → Prop)
  | call (W : α → α → Prop) (F : α → α → Bool)
/-- What the comparing of two structs comes to: field by field. -/
def eqSt {α : Type} (x y : α) : List (EqStep α) → (Bool → Prop) → Prop
  | [], Q => Q true
  | .ne p :: r, Q => (p x y → Q false) ∧ (¬ p x y → eqSt x y r Q)
  | .call W F :: r, Q => W x y ∧ ((¬ F x y = true → Q false) ∧ (¬ ¬ F x y = true → eqSt x y r Q))
def eqAll {α : Type} (x y : α) : List (EqStep α) → Prop
  | [] => True
  | .ne p :: r => ¬ p x y ∧ eqAll x y r
  | .call _ F :: r => F x y = true ∧ eqAll x y r
def eqFine {α : Type} (x y : α) : List (EqStep α) → Prop
  | [] => True
  | .ne _ :: r => eqFine x y r
  | .call W _ :: r => W x y ∧ eqFine x y r
theorem eqSt_holds {α : Type} (x y : α) : ∀ (l : List (EqStep α)) {R : Bool}, eqFine x y l → (R = true ↔ eqAll x y l) → eqSt x y l (fun r => r = R)
  | [], R, _, hR => by
    simp only [eqSt]
    exact (hR.2 trivial).symm
  | .ne p :: r, R, hf, hR => by
    simp only [eqSt]
    refine ⟨fun h => ?_, fun h => eqSt_holds x y r hf (hR.trans ⟨fun h => h.2, fun h' => ⟨h, h'⟩⟩)⟩
    cases R with
    | false => rfl
    | true => exact absurd h (hR.1 rfl).1
  | .call W F :: r, R, hf, hR => by
    simp only [eqSt]
    refine ⟨hf.1, fun h => ?_, fun h => eqSt_holds x y r hf.2 (hR.trans ⟨fun h => h.2, fun h' => ⟨Classical.byContradiction h, h'⟩⟩)⟩
    cases R with
    | false => rfl
    | true => exact absurd (hR.1 rfl).1 h
def eqB (ls : List L) (x y : dens ls) : Bool := @decide (x = y) (L.deqs ls x y)
theorem eqB_iff {ls : List L} {x y : dens ls} : eqB ls x y = true ↔ x = y := @decide_eq_true_iff _ (L.deqs ls x y)
theorem sumN_mem : ∀ {l : List Nat} {a : Nat}, a ∈ l → a ≤ sumN l
  | b :: l, a, h => by
    simp only [sumN]
    rcases List.mem_cons.1 h with rfl | h
    · omega
    · have := sumN_mem h; omega
theorem costs_len {e : TypeId} {ls : List L} (x : List (dens ls)) (h : costs [.list e ls] x ≤ 1048576) : x.length ≤ 1048576 := by
  simp only [costs, cost] at h
  exact Nat.le_trans (Nat.le_add_right _ _) h
theorem costs_mem {e : TypeId} {ls : List L} (x : List (dens ls)) (h : costs [.list e ls] x ≤ 1048576) (i : Nat) (a : dens ls) (ha : gt x i = some a) : costs ls a ≤ 1048576 := by
  simp only [costs, cost] at h
  have hm : costs ls a ∈ List.map (α := dens ls) (costs ls) x := List.mem_map.2 ⟨a, List.mem_of_getElem? ha, rfl⟩
  have := sumN_mem hm
  exact Nat.le_trans this (Nat.le_trans (Nat.le_add_left _ _) h)
theorem wf_str (s : ByteArray) : wf .str s = (ByteArray.size s ≤ maxLen) := by simp only [wf]
end Go.Ev
end

section
/- The plain library, first part: canonical types of the program's data, texts as lists of bytes, loops by measure. -/
set_option linter.unusedVariables false
namespace Go.Ev
abbrev S := ByteArray
abbrev Fld : Type := S × S
abbrev Req : Type := S × S × List Fld × S
abbrev Rsp : Type := Int × List Fld × S
abbrev Sto : Type := S × List Fld × Int × List Fld × S × Int × Int
abbrev Slt : Type := S × List Fld × Int × List Fld × S × Int × Int × Bool
abbrev Shd : Type := Int × Int × List Slt × Int
abbrev Gen : Type := S × Int
abbrev Cch : Type := List Shd × List Gen
abbrev Flt : Type := S × Bool × Int × Bool × Bool × S × S × List Fld × S × Int × List Fld × S × Int × Int
abbrev Rsc : Type := S × S × Int × Int × Bool × Bool × List Fld
abbrev Tld : Type := Int × Int × List Fld × S
abbrev Evt : Type := Int × Int × Int × S × Int × Int
abbrev Cnn : Type := Int × S × Int × S × S × List Fld × S × S × S × List Fld × S × S × List Fld × Int × List Fld × S × Int × Int × Bool × Int × Int × Int × Int × Bool × Int × List Fld × S × List Tld
abbrev Wld : Type := Int × Int × List Cnn × List Shd × List Gen × List Flt × List Rsc × List Evt

/-! ### Default elements -/
class Dft (α : Type) where
  dft : α
instance : Dft Int := ⟨0⟩
instance : Dft Bool := ⟨false⟩
instance : Dft ByteArray := ⟨ByteArray.empty⟩
instance {α : Type} : Dft (List α) := ⟨[]⟩
instance {α β : Type} [Dft α] [Dft β] : Dft (α × β) := ⟨(Dft.dft, Dft.dft)⟩
/-- A list's element. -/
def rx {α : Type} [Dft α] (xs : List α) (i : Int) : α := xs.getD i.toNat Dft.dft
theorem rx_nat {α : Type} [Dft α] (xs : List α) (i : Nat) (h : i < xs.length) : rx xs (i : Int) = xs[i] := by
  unfold rx
  rw [Int.toNat_natCast, List.getD_eq_getElem?_getD, List.getElem?_eq_getElem h]; rfl

/-! ### What data weighs, and that it is fine -/
class Cz (α : Type) where
  czOf : α → Nat
/-- How many letters and elements a value has. -/
def cz {α : Type} [Cz α] (x : α) : Nat := Cz.czOf x
instance : Cz Int := ⟨fun _ => 0⟩
instance : Cz Bool := ⟨fun _ => 0⟩
instance : Cz ByteArray := ⟨fun s => s.size⟩
instance {α : Type} [Cz α] : Cz (List α) := ⟨fun xs => xs.length + sumN (xs.map cz)⟩
instance {α β : Type} [Cz α] [Cz β] : Cz (α × β) := ⟨fun x => cz x.1 + cz x.2⟩
theorem cz_int (x : Int) : cz x = 0 := rfl
theorem cz_bool (x : Bool) : cz x = 0 := rfl
theorem cz_str (x : ByteArray) : cz x = x.size := rfl
theorem cz_list {α : Type} [Cz α] (xs : List α) : cz xs = xs.length + sumN (xs.map cz) := rfl
theorem cz_pair {α β : Type} [Cz α] [Cz β] (x : α × β) : cz x = cz x.1 + cz x.2 := rfl
theorem czt {α β : Type} [Cz α] [Cz β] {x : α × β} {n : Nat} (h : cz x ≤ n) : cz x.2 ≤ n := by rw [cz_pair] at h; omega
theorem czh {α β : Type} [Cz α] [Cz β] {x : α × β} {n : Nat} (h : cz x ≤ n) : cz x.1 ≤ n := by rw [cz_pair] at h; omega
theorem czm2 {α β γ : Type} [Cz α] [Cz β] [Cz γ] {x : α × β × γ} {n : Nat} (h : cz x ≤ n) : cz (x.1, x.2.1) ≤ n := by simp only [cz_pair] at h ⊢; omega
theorem czm3 {α β γ δ : Type} [Cz α] [Cz β] [Cz γ] [Cz δ] {x : α × β × γ × δ} {n : Nat} (h : cz x ≤ n) : cz (x.1, x.2.1, x.2.2.1) ≤ n := by simp only [cz_pair] at h ⊢; omega
theorem czm4 {α β γ δ ε : Type} [Cz α] [Cz β] [Cz γ] [Cz δ] [Cz ε] {x : α × β × γ × δ × ε} {n : Nat} (h : cz x ≤ n) : cz (x.1, x.2.1, x.2.2.1, x.2.2.2.1) ≤ n := by simp only [cz_pair] at h ⊢; omega
theorem czm7 {α β γ δ ε ζ η θ : Type} [Cz α] [Cz β] [Cz γ] [Cz δ] [Cz ε] [Cz ζ] [Cz η] [Cz θ] {x : α × β × γ × δ × ε × ζ × η × θ} {n : Nat} (h : cz x ≤ n) : cz (x.1, x.2.1, x.2.2.1, x.2.2.2.1, x.2.2.2.2.1, x.2.2.2.2.2.1, x.2.2.2.2.2.2.1) ≤ n := by simp only [cz_pair] at h ⊢; omega
theorem cz_len {α : Type} [Cz α] (xs : List α) : xs.length ≤ cz xs := by rw [cz_list]; omega
theorem cz_mem {α : Type} [Cz α] {xs : List α} {x : α} (h : x ∈ xs) : cz x + 1 ≤ cz xs := by
  rw [cz_list]
  have h1 := sumN_mem (List.mem_map.2 ⟨x, h, rfl⟩ : cz x ∈ xs.map cz)
  have h2 : 0 < xs.length := List.length_pos_of_mem h
  omega

def in64 (n : Int) : Prop := -9223372036854775808 ≤ n ∧ n ≤ 9223372036854775807
class Wd (α : Type) where
  wdOf : α → Prop
/-- A value is fine. -/
def wd {α : Type} [Wd α] (x : α) : Prop := Wd.wdOf x
instance : Wd Int := ⟨fun n => (Lit.int .i64 n).wf = true⟩
instance : Wd Bool := ⟨fun _ => True⟩
instance : Wd ByteArray := ⟨fun s => s.size ≤ maxLen⟩
instance {α : Type} [Wd α] : Wd (List α) := ⟨fun xs => xs.length ≤ maxLen ∧ ∀ (i : Nat) (x : α), gt xs i = some x → wd x⟩
instance {α β : Type} [Wd α] [Wd β] : Wd (α × β) := ⟨fun x => wd x.1 ∧ wd x.2⟩
/-! Instances for long tuples, piece by piece. -/
instance : DecidableEq (List Fld × S) := @instDecidableEqProd _ _ inferInstance inferInstance
instance : DecidableEq (Int × List Fld × S) := @instDecidableEqProd _ _ inferInstance inferInstance
instance : Dft (Int × List Fld × S) := inferInstance
instance : Cz (Int × List Fld × S) := inferInstance
instance : Wd (Int × List Fld × S) := inferInstance
instance : DecidableEq (S × List Fld × S) := @instDecidableEqProd _ _ inferInstance inferInstance
instance : DecidableEq (S × S × List Fld × S) := @instDecidableEqProd _ _ inferInstance inferInstance
instance : Dft (S × S × List Fld × S) := inferInstance
instance : Cz (S × S × List Fld × S) := inferInstance
instance : Wd (S × S × List Fld × S) := inferInstance
instance : DecidableEq (Int × Int × List Fld × S) := @instDecidableEqProd _ _ inferInstance inferInstance
instance : Dft (Int × Int × List Fld × S) := inferInstance
instance : Cz (Int × Int × List Fld × S) := inferInstance
instance : Wd (Int × Int × List Fld × S) := inferInstance
instance : DecidableEq (Int × Int) := @instDecidableEqProd _ _ inferInstance inferInstance
instance : DecidableEq (S × Int × Int) := @instDecidableEqProd _ _ inferInstance inferInstance
instance : DecidableEq (List Fld × S × Int × Int) := @instDecidableEqProd _ _ inferInstance inferInstance
instance : Dft (List Fld × S × Int × Int) := inferInstance
instance : Cz (List Fld × S × Int × Int) := inferInstance
instance : Wd (List Fld × S × Int × Int) := inferInstance
instance : DecidableEq (Int × List Fld × S × Int × Int) := @instDecidableEqProd _ _ inferInstance inferInstance
instance : DecidableEq (List Fld × Int × List Fld × S × Int × Int) := @instDecidableEqProd _ _ inferInstance inferInstance
instance : DecidableEq (S × List Fld × Int × List Fld × S × Int × Int) := @instDecidableEqProd _ _ inferInstance inferInstance
instance : Dft (S × List Fld × Int × List Fld × S × Int × Int) := inferInstance
instance : Cz (S × List Fld × Int × List Fld × S × Int × Int) := inferInstance
instance : Wd (S × List Fld × Int × List Fld × S × Int × Int) := inferInstance
instance : DecidableEq (Int × Bool) := @instDecidableEqProd _ _ inferInstance inferInstance
instance : DecidableEq (Int × Int × Bool) := @instDecidableEqProd _ _ inferInstance inferInstance
instance : DecidableEq (S × Int × Int × Bool) := @instDecidableEqProd _ _ inferInstance inferInstance
instance : Dft (S × Int × Int × Bool) := inferInstance
instance : Cz (S × Int × Int × Bool) := inferInstance
instance : Wd (S × Int × Int × Bool) := inferInstance
instance : DecidableEq (List Fld × S × Int × Int × Bool) := @instDecidableEqProd _ _ inferInstance inferInstance
instance : DecidableEq (Int × List Fld × S × Int × Int × Bool) := @instDecidableEqProd _ _ inferInstance inferInstance
instance : DecidableEq (List Fld × Int × List Fld × S × Int × Int × Bool) := @instDecidableEqProd _ _ inferInstance inferInstance
instance : DecidableEq (S × List Fld × Int × List Fld × S × Int × Int × Bool) := @instDecidableEqProd _ _ inferInstance inferInstance
instance : Dft (S × List Fld × Int × List Fld × S × Int × Int × Bool) := inferInstance
instance : Cz (S × List Fld × Int × List Fld × S × Int × Int × Bool) := inferInstance
instance : Wd (S × List Fld × Int × List Fld × S × Int × Int × Bool) := inferInstance
instance : DecidableEq (List Slt × Int) := @instDecidableEqProd _ _ inferInstance inferInstance
instance : DecidableEq (Int × List Slt × Int) := @instDecidableEqProd _ _ inferInstance inferInstance
instance : DecidableEq (Int × Int × List Slt × Int) := @instDecidableEqProd _ _ inferInstance inferInstance
instance : Dft (Int × Int × List Slt × Int) := inferInstance
instance : Cz (Int × Int × List Slt × Int) := inferInstance
instance : Wd (Int × Int × List Slt × Int) := inferInstance
instance : DecidableEq (S × Int) := @instDecidableEqProd _ _ inferInstance inferInstance
instance : Dft (S × Int) := inferInstance
instance : Cz (S × Int) := inferInstance
instance : Wd (S × Int) := inferInstance
instance : DecidableEq (S × Int × List Fld × S × Int × Int) := @instDecidableEqProd _ _ inferInstance inferInstance
instance : DecidableEq (List Fld × S × Int × List Fld × S × Int × Int) := @instDecidableEqProd _ _ inferInstance inferInstance
instance : DecidableEq (S × List Fld × S × Int × List Fld × S × Int × Int) := @instDecidableEqProd _ _ inferInstance inferInstance
instance : Dft (S × List Fld × S × Int × List Fld × S × Int × Int) := inferInstance
instance : Cz (S × List Fld × S × Int × List Fld × S × Int × Int) := inferInstance
instance : Wd (S × List Fld × S × Int × List Fld × S × Int × Int) := inferInstance
instance : DecidableEq (S × S × List Fld × S × Int × List Fld × S × Int × Int) := @instDecidableEqProd _ _ inferInstance inferInstance
instance : DecidableEq (Bool × S × S × List Fld × S × Int × List Fld × S × Int × Int) := @instDecidableEqProd _ _ inferInstance inferInstance
instance : DecidableEq (Bool × Bool × S × S × List Fld × S × Int × List Fld × S × Int × Int) := @instDecidableEqProd _ _ inferInstance inferInstance
instance : DecidableEq (Int × Bool × Bool × S × S × List Fld × S × Int × List Fld × S × Int × Int) := @instDecidableEqProd _ _ inferInstance inferInstance
instance : Dft (Int × Bool × Bool × S × S × List Fld × S × Int × List Fld × S × Int × Int) := inferInstance
instance : Cz (Int × Bool × Bool × S × S × List Fld × S × Int × List Fld × S × Int × Int) := inferInstance
instance : Wd (Int × Bool × Bool × S × S × List Fld × S × Int × List Fld × S × Int × Int) := inferInstance
instance : DecidableEq (Bool × Int × Bool × Bool × S × S × List Fld × S × Int × List Fld × S × Int × Int) := @instDecidableEqProd _ _ inferInstance inferInstance
instance : DecidableEq (S × Bool × Int × Bool × Bool × S × S × List Fld × S × Int × List Fld × S × Int × Int) := @instDecidableEqProd _ _ inferInstance inferInstance
instance : Dft (S × Bool × Int × Bool × Bool × S × S × List Fld × S × Int × List Fld × S × Int × Int) := inferInstance
instance : Cz (S × Bool × Int × Bool × Bool × S × S × List Fld × S × Int × List Fld × S × Int × Int) := inferInstance
instance : Wd (S × Bool × Int × Bool × Bool × S × S × List Fld × S × Int × List Fld × S × Int × Int) := inferInstance
instance : DecidableEq (Bool × List Fld) := @instDecidableEqProd _ _ inferInstance inferInstance
instance : DecidableEq (Bool × Bool × List Fld) := @instDecidableEqProd _ _ inferInstance inferInstance
instance : DecidableEq (Int × Bool × Bool × List Fld) := @instDecidableEqProd _ _ inferInstance inferInstance
instance : Dft (Int × Bool × Bool × List Fld) := inferInstance
instance : Cz (Int × Bool × Bool × List Fld) := inferInstance
instance : Wd (Int × Bool × Bool × List Fld) := inferInstance
instance : DecidableEq (Int × Int × Bool × Bool × List Fld) := @instDecidableEqProd _ _ inferInstance inferInstance
instance : DecidableEq (S × Int × Int × Bool × Bool × List Fld) := @instDecidableEqProd _ _ inferInstance inferInstance
instance : DecidableEq (S × S × Int × Int × Bool × Bool × List Fld) := @instDecidableEqProd _ _ inferInstance inferInstance
instance : Dft (S × S × Int × Int × Bool × Bool × List Fld) := inferInstance
instance : Cz (S × S × Int × Int × Bool × Bool × List Fld) := inferInstance
instance : Wd (S × S × Int × Int × Bool × Bool × List Fld) := inferInstance
instance : DecidableEq (Int × S × Int × Int) := @instDecidableEqProd _ _ inferInstance inferInstance
instance : Dft (Int × S × Int × Int) := inferInstance
instance : Cz (Int × S × Int × Int) := inferInstance
instance : Wd (Int × S × Int × Int) := inferInstance
instance : DecidableEq (Int × Int × S × Int × Int) := @instDecidableEqProd _ _ inferInstance inferInstance
instance : DecidableEq (Int × Int × Int × S × Int × Int) := @instDecidableEqProd _ _ inferInstance inferInstance
instance : Dft (Int × Int × Int × S × Int × Int) := inferInstance
instance : Cz (Int × Int × Int × S × Int × Int) := inferInstance
instance : Wd (Int × Int × Int × S × Int × Int) := inferInstance
instance : DecidableEq (S × List Tld) := @instDecidableEqProd _ _ inferInstance inferInstance
instance : DecidableEq (List Fld × S × List Tld) := @instDecidableEqProd _ _ inferInstance inferInstance
instance : DecidableEq (Int × List Fld × S × List Tld) := @instDecidableEqProd _ _ inferInstance inferInstance
instance : Dft (Int × List Fld × S × List Tld) := inferInstance
instance : Cz (Int × List Fld × S × List Tld) := inferInstance
instance : Wd (Int × List Fld × S × List Tld) := inferInstance
instance : DecidableEq (Bool × Int × List Fld × S × List Tld) := @instDecidableEqProd _ _ inferInstance inferInstance
instance : DecidableEq (Int × Bool × Int × List Fld × S × List Tld) := @instDecidableEqProd _ _ inferInstance inferInstance
instance : DecidableEq (Int × Int × Bool × Int × List Fld × S × List Tld) := @instDecidableEqProd _ _ inferInstance inferInstance
instance : DecidableEq (Int × Int × Int × Bool × Int × List Fld × S × List Tld) := @instDecidableEqProd _ _ inferInstance inferInstance
instance : Dft (Int × Int × Int × Bool × Int × List Fld × S × List Tld) := inferInstance
instance : Cz (Int × Int × Int × Bool × Int × List Fld × S × List Tld) := inferInstance
instance : Wd (Int × Int × Int × Bool × Int × List Fld × S × List Tld) := inferInstance
instance : DecidableEq (Int × Int × Int × Int × Bool × Int × List Fld × S × List Tld) := @instDecidableEqProd _ _ inferInstance inferInstance
instance : DecidableEq (Bool × Int × Int × Int × Int × Bool × Int × List Fld × S × List Tld) := @instDecidableEqProd _ _ inferInstance inferInstance
instance : DecidableEq (Int × Bool × Int × Int × Int × Int × Bool × Int × List Fld × S × List Tld) := @instDecidableEqProd _ _ inferInstance inferInstance
instance : DecidableEq (Int × Int × Bool × Int × Int × Int × Int × Bool × Int × List Fld × S × List Tld) := @instDecidableEqProd _ _ inferInstance inferInstance
instance : Dft (Int × Int × Bool × Int × Int × Int × Int × Bool × Int × List Fld × S × List Tld) := inferInstance
instance : Cz (Int × Int × Bool × Int × Int × Int × Int × Bool × Int × List Fld × S × List Tld) := inferInstance
instance : Wd (Int × Int × Bool × Int × Int × Int × Int × Bool × Int × List Fld × S × List Tld) := inferInstance
instance : DecidableEq (S × Int × Int × Bool × Int × Int × Int × Int × Bool × Int × List Fld × S × List Tld) := @instDecidableEqProd _ _ inferInstance inferInstance
instance : DecidableEq (List Fld × S × Int × Int × Bool × Int × Int × Int × Int × Bool × Int × List Fld × S × List Tld) := @instDecidableEqProd _ _ inferInstance inferInstance
instance : DecidableEq (Int × List Fld × S × Int × Int × Bool × Int × Int × Int × Int × Bool × Int × List Fld × S × List Tld) := @instDecidableEqProd _ _ inferInstance inferInstance
instance : DecidableEq (List Fld × Int × List Fld × S × Int × Int × Bool × Int × Int × Int × Int × Bool × Int × List Fld × S × List Tld) := @instDecidableEqProd _ _ inferInstance inferInstance
instance : Dft (List Fld × Int × List Fld × S × Int × Int × Bool × Int × Int × Int × Int × Bool × Int × List Fld × S × List Tld) := inferInstance
instance : Cz (List Fld × Int × List Fld × S × Int × Int × Bool × Int × Int × Int × Int × Bool × Int × List Fld × S × List Tld) := inferInstance
instance : Wd (List Fld × Int × List Fld × S × Int × Int × Bool × Int × Int × Int × Int × Bool × Int × List Fld × S × List Tld) := inferInstance
instance : DecidableEq (S × List Fld × Int × List Fld × S × Int × Int × Bool × Int × Int × Int × Int × Bool × Int × List Fld × S × List Tld) := @instDecidableEqProd _ _ inferInstance inferInstance
instance : DecidableEq (S × S × List Fld × Int × List Fld × S × Int × Int × Bool × Int × Int × Int × Int × Bool × Int × List Fld × S × List Tld) := @instDecidableEqProd _ _ inferInstance inferInstance
instance : DecidableEq (List Fld × S × S × List Fld × Int × List Fld × S × Int × Int × Bool × Int × Int × Int × Int × Bool × Int × List Fld × S × List Tld) := @instDecidableEqProd _ _ inferInstance inferInstance
instance : DecidableEq (S × List Fld × S × S × List Fld × Int × List Fld × S × Int × Int × Bool × Int × Int × Int × Int × Bool × Int × List Fld × S × List Tld) := @instDecidableEqProd _ _ inferInstance inferInstance
instance : Dft (S × List Fld × S × S × List Fld × Int × List Fld × S × Int × Int × Bool × Int × Int × Int × Int × Bool × Int × List Fld × S × List Tld) := inferInstance
instance : Cz (S × List Fld × S × S × List Fld × Int × List Fld × S × Int × Int × Bool × Int × Int × Int × Int × Bool × Int × List Fld × S × List Tld) := inferInstance
instance : Wd (S × List Fld × S × S × List Fld × Int × List Fld × S × Int × Int × Bool × Int × Int × Int × Int × Bool × Int × List Fld × S × List Tld) := inferInstance
instance : DecidableEq (S × S × List Fld × S × S × List Fld × Int × List Fld × S × Int × Int × Bool × Int × Int × Int × Int × Bool × Int × List Fld × S × List Tld) := @instDecidableEqProd _ _ inferInstance inferInstance
instance : DecidableEq (S × S × S × List Fld × S × S × List Fld × Int × List Fld × S × Int × Int × Bool × Int × Int × Int × Int × Bool × Int × List Fld × S × List Tld) := @instDecidableEqProd _ _ inferInstance inferInstance
instance : DecidableEq (List Fld × S × S × S × List Fld × S × S × List Fld × Int × List Fld × S × Int × Int × Bool × Int × Int × Int × Int × Bool × Int × List Fld × S × List Tld) := @instDecidableEqProd _ _ inferInstance inferInstance
instance : DecidableEq (S × List Fld × S × S × S × List Fld × S × S × List Fld × Int × List Fld × S × Int × Int × Bool × Int × Int × Int × Int × Bool × Int × List Fld × S × List Tld) := @instDecidableEqProd _ _ inferInstance inferInstance
instance : Dft (S × List Fld × S × S × S × List Fld × S × S × List Fld × Int × List Fld × S × Int × Int × Bool × Int × Int × Int × Int × Bool × Int × List Fld × S × List Tld) := inferInstance
instance : Cz (S × List Fld × S × S × S × List Fld × S × S × List Fld × Int × List Fld × S × Int × Int × Bool × Int × Int × Int × Int × Bool × Int × List Fld × S × List Tld) := inferInstance
instance : Wd (S × List Fld × S × S × S × List Fld × S × S × List Fld × Int × List Fld × S × Int × Int × Bool × Int × Int × Int × Int × Bool × Int × List Fld × S × List Tld) := inferInstance
instance : DecidableEq (S × S × List Fld × S × S × S × List Fld × S × S × List Fld × Int × List Fld × S × Int × Int × Bool × Int × Int × Int × Int × Bool × Int × List Fld × S × List Tld) := @instDecidableEqProd _ _ inferInstance inferInstance
instance : DecidableEq (Int × S × S × List Fld × S × S × S × List Fld × S × S × List Fld × Int × List Fld × S × Int × Int × Bool × Int × Int × Int × Int × Bool × Int × List Fld × S × List Tld) := @instDecidableEqProd _ _ inferInstance inferInstance
instance : DecidableEq (S × Int × S × S × List Fld × S × S × S × List Fld × S × S × List Fld × Int × List Fld × S × Int × Int × Bool × Int × Int × Int × Int × Bool × Int × List Fld × S × List Tld) := @instDecidableEqProd _ _ inferInstance inferInstance
instance : DecidableEq (Int × S × Int × S × S × List Fld × S × S × S × List Fld × S × S × List Fld × Int × List Fld × S × Int × Int × Bool × Int × Int × Int × Int × Bool × Int × List Fld × S × List Tld) := @instDecidableEqProd _ _ inferInstance inferInstance
instance : Dft (Int × S × Int × S × S × List Fld × S × S × S × List Fld × S × S × List Fld × Int × List Fld × S × Int × Int × Bool × Int × Int × Int × Int × Bool × Int × List Fld × S × List Tld) := inferInstance
instance : Cz (Int × S × Int × S × S × List Fld × S × S × S × List Fld × S × S × List Fld × Int × List Fld × S × Int × Int × Bool × Int × Int × Int × Int × Bool × Int × List Fld × S × List Tld) := inferInstance
instance : Wd (Int × S × Int × S × S × List Fld × S × S × S × List Fld × S × S × List Fld × Int × List Fld × S × Int × Int × Bool × Int × Int × Int × Int × Bool × Int × List Fld × S × List Tld) := inferInstance
instance : DecidableEq (List Shd × List Gen) := @instDecidableEqProd _ _ inferInstance inferInstance
instance : Dft (List Shd × List Gen) := inferInstance
instance : Cz (List Shd × List Gen) := inferInstance
instance : Wd (List Shd × List Gen) := inferInstance
instance : DecidableEq (List Rsc × List Evt) := @instDecidableEqProd _ _ inferInstance inferInstance
instance : DecidableEq (List Flt × List Rsc × List Evt) := @instDecidableEqProd _ _ inferInstance inferInstance
instance : DecidableEq (List Gen × List Flt × List Rsc × List Evt) := @instDecidableEqProd _ _ inferInstance inferInstance
instance : Dft (List Gen × List Flt × List Rsc × List Evt) := inferInstance
instance : Cz (List Gen × List Flt × List Rsc × List Evt) := inferInstance
instance : Wd (List Gen × List Flt × List Rsc × List Evt) := inferInstance
instance : DecidableEq (List Shd × List Gen × List Flt × List Rsc × List Evt) := @instDecidableEqProd _ _ inferInstance inferInstance
instance : DecidableEq (List Cnn × List Shd × List Gen × List Flt × List Rsc × List Evt) := @instDecidableEqProd _ _ inferInstance inferInstance
instance : DecidableEq (Int × List Cnn × List Shd × List Gen × List Flt × List Rsc × List Evt) := @instDecidableEqProd _ _ inferInstance inferInstance
instance : DecidableEq (Int × Int × List Cnn × List Shd × List Gen × List Flt × List Rsc × List Evt) := @instDecidableEqProd _ _ inferInstance inferInstance
instance : Dft (Int × Int × List Cnn × List Shd × List Gen × List Flt × List Rsc × List Evt) := inferInstance
instance : Cz (Int × Int × List Cnn × List Shd × List Gen × List Flt × List Rsc × List Evt) := inferInstance
instance : Wd (Int × Int × List Cnn × List Shd × List Gen × List Flt × List Rsc × List Evt) := inferInstance
theorem wd_int {n : Int} : wd n ↔ in64 n := by
  show (Lit.int .i64 n).wf = true ↔ _
  have h0 : IntKind.i64.min = -9223372036854775808 := rfl
  have h1 : IntKind.i64.max = 9223372036854775807 := rfl
  unfold in64
  simp only [Lit.wf, Bool.and_eq_true, decide_eq_true_eq, h0, h1]
theorem wd_pair {α β : Type} [Wd α] [Wd β] {x : α × β} : wd x ↔ wd x.1 ∧ wd x.2 := Iff.rfl
theorem wf_wd {s : ByteArray} : wf .str s = wd s := by simp only [wf]; rfl
theorem wd_mem {α : Type} [Wd α] {xs : List α} (h : wd xs) {x : α} (hx : x ∈ xs) : wd x := by
  obtain ⟨i, hi⟩ := List.mem_iff_getElem?.1 hx
  exact h.2 i x hi

/-- The size of what is left of a budget; comparing; turning. -/
def szF {α : Type} [Cz α] (x : α) (k : Int) : Int := leftI (cz x) k
def pSz {α : Type} [Wd α] (x : α) (k : Int) : Prop := wd x ∧ 0 ≤ k ∧ k ≤ capI
def eqF {α : Type} [DecidableEq α] (x y : α) : Bool := decide (x = y)
def pEq {α : Type} [Wd α] (x _y : α) : Prop := wd x
theorem eqF_iff {α : Type} [DecidableEq α] {x y : α} : eqF x y = true ↔ x = y := decide_eq_true_iff
def toF {α : Type} (x : α) : α := x
def pTo {α : Type} [Cz α] (x : α) : Prop := cz x ≤ 1048576

/-! ### Texts as lists of bytes -/
def lit (l : List Nat) : ByteArray := ⟨(l.map UInt8.ofNat).toArray⟩
abbrev bs (s : ByteArray) : List UInt8 := s.data.toList
def ob (l : List UInt8) : ByteArray := ⟨l.toArray⟩
theorem bs_ob (l : List UInt8) : bs (ob l) = l := rfl
theorem ob_bs (s : ByteArray) : ob (bs s) = s := rfl
theorem bs_inj {s t : ByteArray} (h : bs s = bs t) : s = t := by rw [← ob_bs s, h, ob_bs]
theorem bs_len (s : ByteArray) : (bs s).length = s.size := by
  show s.data.toList.length = s.data.size
  exact Array.length_toList
theorem ob_size (l : List UInt8) : (ob l).size = l.length := by rw [← bs_len, bs_ob]
theorem bs_append (s t : ByteArray) : bs (s ++ t) = bs s ++ bs t := by
  show (s ++ t).data.toList = _
  rw [ByteArray.data_append, Array.toList_append]
theorem bs_extract (s : ByteArray) (i j : Nat) : bs (s.extract i j) = ((bs s).drop i).take (j - i) := by
  show (s.extract i j).data.toList = _
  rw [ByteArray.data_extract, Array.toList_extract, List.extract_eq_take_drop]
theorem bs_lit (l : List Nat) : bs (lit l) = l.map UInt8.ofNat := rfl
theorem lit_nil : lit [] = ob [] := rfl
theorem ob_append (a b : List UInt8) : ob a ++ ob b = ob (a ++ b) := bs_inj (by rw [bs_append, bs_ob, bs_ob, bs_ob])
theorem size_append (s t : ByteArray) : (s ++ t).size = s.size + t.size := by rw [← bs_len, bs_append, List.length_append, bs_len, bs_len]
theorem bt_nat (s : ByteArray) (i : Nat) (h : i < s.size) : bt s (i : Int) = (((bs s)[i]'(by rw [bs_len]; exact h)).toNat : Int) := by
  unfold bt
  simp only [Int.toNat_natCast]
  rw [dif_pos h]
  rfl
theorem bt_range (s : ByteArray) (i : Int) : 0 ≤ bt s i ∧ bt s i < 256 := by
  unfold bt
  split
  · have := (s[i.toNat]).toNat_lt
    omega
  · omega
theorem lit_ne {s : ByteArray} : s ≠ lit [] ↔ s.size ≠ 0 := by
  constructor
  · intro h h0
    apply h
    apply bs_inj
    have : (bs s).length = 0 := by rw [bs_len]; exact h0
    rw [List.eq_nil_of_length_eq_zero this]; rfl
  · intro h e
    rw [e] at h
    exact h rfl
theorem lit_eq {s : ByteArray} : s = lit [] ↔ s.size = 0 := by
  have := lit_ne (s := s)
  constructor
  · intro h; apply Classical.byContradiction; intro h'; exact this.2 h' h
  · intro h; apply Classical.byContradiction; intro h'; exact this.1 h' h

theorem wrap64 {n : Int} (h0 : -9223372036854775808 ≤ n) (h1 : n < 9223372036854775808) : IntKind.i64.wrap n = n := wrapI n h0 h1
theorem wrap8 {n : Int} (h0 : 0 ≤ n) (h1 : n < 256) : IntKind.u8.wrap n = n := by
  simp [IntKind.wrap, IntKind.bits, IntKind.signed]
  omega

/-! ### Loops -/
theorem loopI {α : Type} {Lp : α → Prop} {B : α → Prop} (hL : ∀ y, B y → Lp y) (I : α → Prop) (m : α → Nat) (step : ∀ y, I y → (∀ y', I y' → m y' < m y → Lp y') → B y) : ∀ y, I y → Lp y := by
  have key : ∀ (n : Nat) (y : α), m y = n → I y → Lp y := by
    intro n
    induction n using Nat.strongRecOn with
    | _ n ih =>
      intro y hm hI
      exact hL y (step y hI fun y' hI' hlt => ih (m y') (by omega) y' rfl hI')
  exact fun y hI => key _ y rfl hI
instance {s t : ByteArray} : Decidable (strLt s t) := inferInstanceAs (Decidable (_ = _))
/-- The place of the first element of which something is so; -1 of none. -/
def idxI {α : Type} (p : α → Bool) (xs : List α) : Int := match xs.findIdx? p with
  | some i => (i : Int)
  | none => -1
theorem idxI_neg {α : Type} {p : α → Bool} {xs : List α} : idxI p xs < 0 ↔ xs.any p = false := by
  unfold idxI
  cases h : xs.findIdx? p with
  | none =>
    rw [List.findIdx?_eq_none_iff] at h
    simp only [Int.reduceNeg, Int.reduceLT, true_iff, List.any_eq_false, Bool.not_eq_true]
    exact h
  | some i =>
    rw [List.findIdx?_eq_some_iff_getElem] at h
    obtain ⟨hi, hp, _⟩ := h
    have : xs.any p = true := List.any_eq_true.2 ⟨xs[i], List.getElem_mem hi, hp⟩
    rw [this]
    show (i : Int) < 0 ↔ _
    constructor
    · intro h; omega
    · intro h; cases h
theorem idxI_le {α : Type} {p : α → Bool} {xs : List α} : -1 ≤ idxI p xs ∧ (0 ≤ idxI p xs → idxI p xs < xs.length) := by
  unfold idxI
  cases h : xs.findIdx? p with
  | none =>
    show -1 ≤ (-1 : Int) ∧ (0 ≤ (-1 : Int) → (-1 : Int) < _)
    omega
  | some i =>
    rw [List.findIdx?_eq_some_iff_getElem] at h
    obtain ⟨hi, _⟩ := h
    show -1 ≤ (i : Int) ∧ (0 ≤ (i : Int) → (i : Int) < _)
    omega
/-- A search that has passed the first i elements. -/
theorem idxI_at {α : Type} {p : α → Bool} {xs : List α} {i : Nat} (hi : i < xs.length) (hp : p xs[i] = true) (hb : ∀ j (h : j < i), p (xs[j]'(by omega)) = false) : idxI p xs = (i : Int) := by
  have : xs.findIdx? p = some i := by
    rw [List.findIdx?_eq_some_iff_getElem]
    exact ⟨hi, hp, fun j hj => by simp [hb j hj]⟩
  unfold idxI
  rw [this]
theorem idxI_none {α : Type} {p : α → Bool} {xs : List α} (hb : ∀ j (h : j < xs.length), p xs[j] = false) : idxI p xs = -1 := by
  have : xs.findIdx? p = none := by
    rw [List.findIdx?_eq_none_iff]
    intro x hx
    obtain ⟨j, hj, rfl⟩ := List.mem_iff_getElem.1 hx
    exact hb j hj
  unfold idxI
  rw [this]
end Go.Ev
namespace Go.Ev
/-- A contract, out of a plain law whose likeness to the evaluation the kernel sees. -/
theorem ct_by {P : Program} {E : Env} {w : World} {H : Nat → List CT} {fn : Func} {c : Ct} (hE : EnvOk P E) (hC : EnvCts P E w) (hf : P.funcs[c.f]? = some fn) (hname : (fn.name == "runtime.NumGoroutine") = false)
    {A : Prop} (hA : A) (hev : A = ∀ x, c.pre x → evalFn E H fn c.ps c.rs c.shared x fun r => r = c.F x) : CtAt P c w := ct_ok hE hC hf hname (hev ▸ hA)
/-- A loop over 0 .. n. -/
theorem loopN {Lp B : Int → Prop} (hL : ∀ y, B y → Lp y) (n : Nat) (hn : n ≤ 9223372036854775807) (I : Nat → Prop) (step : ∀ i : Nat, i ≤ n → I i → (i < n → I (i + 1) → Lp (IntKind.i64.wrap ((i : Int) + 1))) → B (i : Int)) (h0 : I 0) : Lp 0 := by
  have key : ∀ m i : Nat, i + m = n → I i → Lp (i : Int) := by
    intro m
    induction m with
    | zero => exact fun i hi hI => hL _ (step i (by omega) hI fun h => absurd h (by omega))
    | succ m ih =>
      exact fun i hi hI => hL _ (step i (by omega) hI fun h hI' => by
        rw [wrap64 (by omega) (by omega)]
        exact ih (i + 1) (by omega) hI')
  exact key n 0 (by omega) h0
/-- .. with a state. -/
theorem loopG {σ : Type} {Lp B : σ → Prop} (hL : ∀ y, B y → Lp y) (n : Nat) (I : Nat → σ → Prop) (step : ∀ (i : Nat) (s : σ), i ≤ n → I i s → (∀ s', i < n → I (i + 1) s' → Lp s') → B s) {s0 : σ} (h0 : I 0 s0) : Lp s0 := by
  have key : ∀ (m i : Nat) (s : σ), i + m = n → I i s → Lp s := by
    intro m
    induction m with
    | zero => exact fun i s hi hI => hL _ (step i s (by omega) hI fun s' h => absurd h (by omega))
    | succ m ih => exact fun i s hi hI => hL _ (step i s (by omega) hI fun s' h hI' => ih (i + 1) s' (by omega) hI')
  exact key n 0 s0 (by omega) h0
theorem wrapS {i : Nat} (h : i ≤ 4611686018427387904) : IntKind.i64.wrap ((i : Int) + 1) = ((i + 1 : Nat) : Int) := by
  rw [wrap64 (by omega) (by omega)]; omega
theorem take_succ_app {α : Type} {l : List α} {i : Nat} (h : i < l.length) : l.take (i + 1) = l.take i ++ [l[i]] := by
  rw [List.take_add_one, List.getElem?_eq_getElem h]; rfl
theorem rx_get {α : Type} [Dft α] (xs : List α) {i : Nat} (h : i < xs.length) : rx xs (i : Int) = xs[i] := rx_nat xs i h
theorem rx_mem {α : Type} [Dft α] (xs : List α) {i : Nat} (h : i < xs.length) : rx xs (i : Int) ∈ xs := by rw [rx_nat xs i h]; exact List.getElem_mem h
theorem md_mem {α : Type} [Cz α] {xs : List α} (h : cz xs ≤ 1048576) {x : α} (hx : x ∈ xs) : cz x ≤ 1048576 := by
  have := cz_mem hx
  omega
theorem all_false {α : Type} {p : α → Bool} {l : List α} {i : Nat} (h : i < l.length) (hp : p l[i] = false) : l.all p = false := by
  rw [List.all_eq_false]
  exact ⟨l[i], List.getElem_mem h, by simp [hp]⟩
theorem any_true {α : Type} {p : α → Bool} {l : List α} {i : Nat} (h : i < l.length) (hp : p l[i] = true) : l.any p = true := List.any_eq_true.2 ⟨l[i], List.getElem_mem h, hp⟩
end Go.Ev
end

section
/- The plain library: what the program's functions compute, as Lean functions; and what they ask of their arguments. -/
set_option linter.unusedVariables false
namespace Go.Ev
/-- A text of moderate size. -/
def sm (s : S) : Prop := s.size ≤ 1073741824
/-- Data of moderate size. -/
def md {α : Type} [Cz α] (x : α) : Prop := cz x ≤ 1048576

/-! ### The library -/
def joinL (sep : S) : List S → S
  | [] => lit []
  | [x] => x
  | x :: y :: r => x ++ sep ++ joinL sep (y :: r)
def mJoin (xs : List S) (sep : S) : S := joinL sep xs
def pJoin (xs : List S) (sep : S) : Prop := xs.length ≤ 1073741824 ∧ sumN (xs.map fun x => x.size) ≤ 1073741824 ∧ sep.size ≤ 16
def mTrimL (s cs : S) : S := ob (Lib.trimS (bs s) (bs cs))
def pTrimL (s cs : S) : Prop := sm s ∧ cs = lit [32, 9]
def mCut (s sep : S) : S × S × Bool := (ob (Lib.cut (bs s) (bs sep)).1, ob (Lib.cut (bs s) (bs sep)).2.1, (Lib.cut (bs s) (bs sep)).2.2)
def pCut (s sep : S) : Prop := sm s
def mIndexByte (s : S) (c : Int) : Int := Lib.indexByte (bs s) c.toNat.toUInt8
def pIndexByte (s : S) (c : Int) : Prop := True
def mIndex_string (xs : List S) (x : S) : Int := idxI (fun y => decide (x = y)) xs
def pIndex_string (xs : List S) (x : S) : Prop := xs.length ≤ maxLen
def mContains_string (xs : List S) (x : S) : Bool := xs.any fun y => decide (x = y)
def pContains_string (xs : List S) (x : S) : Prop := xs.length ≤ maxLen
def mEqual_Field (a b : List Fld) : Bool := decide (a = b)
def pEqual_Field (a b : List Fld) : Prop := a.length ≤ maxLen

/-! ### Numbers -/
def mIn (n lo hi : Int) : Bool := decide (lo ≤ n) && decide (n ≤ hi)
def pIn (n lo hi : Int) : Prop := True

def mItoa (n : Int) : S := ob (Lib.itoa n)
def pItoa (n : Int) : Prop := in64 n
def mDec (n : Int) : S := mItoa n
def pDec (n : Int) : Prop := in64 n
open Classical in
/-- The number of at most nine digits that a text shows. -/
noncomputable def mReadDec (s : S) : Int × Bool := if h : ∃ n : Int, -999999999 ≤ n ∧ n ≤ 999999999 ∧ mDec n = s then (Classical.choose h, true) else (0, false)
def pReadDec (s : S) : Prop := sm s
def mTagOf (n : Int) : S := if mIn n 1 100000 = true then (lit [34, 118] ++ mDec n) ++ lit [34] else lit []
def pTagOf (n : Int) : Prop := in64 n

/-! ### Signs and texts -/
def mIsLetterOrDigit (b : Int) : Bool := (decide (97 ≤ b) && decide (b ≤ 122)) || (decide (65 ≤ b) && decide (b ≤ 90)) || (decide (48 ≤ b) && decide (b ≤ 57))
def pIsLetterOrDigit (b : Int) : Prop := True
def tokenSigns : List Int := [33, 35, 36, 37, 38, 39, 42, 43, 45, 46, 94, 95, 96, 124, 126]
def mToken (b : Int) : Bool := mIsLetterOrDigit b || tokenSigns.any fun c => decide (b = c)
def pToken (b : Int) : Prop := True
def ints (s : S) : List Int := (bs s).map fun b => (b.toNat : Int)
def mIsTokenText (s : S) : Bool := (ints s).all mToken && decide (s.size ≠ 0)
def pIsTokenText (s : S) : Prop := sm s
def lowB (b : UInt8) : UInt8 := if 65 ≤ b.toNat ∧ b.toNat ≤ 90 then b + 32 else b
def mLower (s : S) : S := ob ((bs s).map lowB)
def pLower (s : S) : Prop := sm s
def mBlank (b : Int) : Bool := decide (b = 32) || decide (b = 9)
def pBlank (b : Int) : Prop := True
def mTrim (s : S) : S := ob (Lib.trimS (bs s) [32, 9])
def pTrim (s : S) : Prop := sm s
def mIsValueText (s : S) : Bool := (ints s).all (fun b => decide (b = 9) || (decide (32 ≤ b) && decide (b ≠ 127))) && decide (mTrim s = s)
def pIsValueText (s : S) : Prop := sm s
/-- The parts of a text between commas that stand in no quotes. -/
def partsL : Bool → List UInt8 → List UInt8 → List (List UInt8)
  | _, cur, [] => [cur]
  | true, cur, [b] => [cur ++ [b]]
  | true, cur, b :: c :: r => if b = 34 then partsL false (cur ++ [b]) (c :: r) else if b = 92 then partsL true (cur ++ [b, c]) r else partsL true (cur ++ [b]) (c :: r)
  | false, cur, b :: r => if b = 34 then partsL true (cur ++ [b]) r else if b = 44 then cur :: partsL false [] r else partsL false (cur ++ [b]) r
/-- .. trimmed; those that are not empty. -/
def trimmed (l : List (List UInt8)) : List S := (l.map fun p => mTrim (ob p)).filter fun s => decide (s ≠ lit [])
def mSplitList (s : S) : List S := trimmed (partsL false [] (bs s))
def pSplitList (s : S) : Prop := sm s
/-- Where the commas are, from a place on. -/
def commasL : Bool → Int → List UInt8 → List Int
  | _, _, [] => []
  | true, _, [_] => []
  | true, i, b :: c :: r => if b = 34 then commasL false (i + 1) (c :: r) else if b = 92 then commasL true (i + 2) r else commasL true (i + 1) (c :: r)
  | false, i, b :: r => if b = 34 then commasL true (i + 1) r else if b = 44 then i :: commasL false (i + 1) r else commasL false (i + 1) r
def mCommas (s : S) : List Int := commasL false 0 (bs s)
def pCommas (s : S) : Prop := sm s

/-! ### Fields -/
def valuesOf (l : List Fld) (n : S) : List S := (l.filter fun f => decide (f.1 = n)).map fun f => f.2
def mFieldGet (l : List Fld) (n : S) : S × Bool := (mJoin (valuesOf l n) (lit [44, 32]), decide (0 < (valuesOf l n).length))
def pFieldGet (l : List Fld) (n : S) : Prop := md l
def mHasField (l : List Fld) (n : S) : Bool := (mFieldGet l n).2
def pHasField (l : List Fld) (n : S) : Prop := md l
def mFieldOk (f : Fld) : Bool := mIsTokenText f.1 && decide ((f.1.size : Int) ≤ 24) && decide (mLower f.1 = f.1) && mIsValueText f.2 && decide ((f.2.size : Int) ≤ 60)
def pFieldOk (f : Fld) : Prop := sm f.1 ∧ sm f.2
def mFieldsOk_1 (f : Fld) : Bool := !mFieldOk f
def pFieldsOk_1 (f : Fld) : Prop := pFieldOk f
def mIndexFunc_FieldsOk_1 (l : List Fld) (_ : Unit) : Int := idxI mFieldsOk_1 l
def pIndexFunc_FieldsOk_1 (l : List Fld) (_ : Unit) : Prop := md l
def mContainsFunc_FieldsOk_1 (l : List Fld) (_ : Unit) : Bool := l.any mFieldsOk_1
def pContainsFunc_FieldsOk_1 (l : List Fld) (_ : Unit) : Prop := md l
def mFieldsOk (l : List Fld) : Bool := l.all mFieldOk && decide ((l.length : Int) ≤ 12)
def pFieldsOk (l : List Fld) : Prop := md l
def mSameFields (a b : List Fld) : Bool := decide (a = b)
def pSameFields (a b : List Fld) : Prop := a.length ≤ maxLen

open Classical in
/-- The version that a tag says; 0 where it says none. -/
noncomputable def mVersionIn (r : Rsp) : Int := if h : ∃ n : Int, 1 ≤ n ∧ n ≤ 100000 ∧ mTagOf n = (mFieldGet r.2.1 (lit [101, 116, 97, 103])).1 then Classical.choose h else 0
def pVersionIn (r : Rsp) : Prop := md r.2.1

/-! ### Messages -/
def nameCL : S := lit [99, 111, 110, 116, 101, 110, 116, 45, 108, 101, 110, 103, 116, 104]
def nameTE : S := lit [116, 114, 97, 110, 115, 102, 101, 114, 45, 101, 110, 99, 111, 100, 105, 110, 103]
def mBodyFields (l : List Fld) : Bool := mHasField l nameCL || mHasField l nameTE
def pBodyFields (l : List Fld) : Prop := md l
def mOwnFields (l : List Fld) : Bool := mFieldsOk l && decide ((l.length : Int) < 12) && !mBodyFields l
def pOwnFields (l : List Fld) : Prop := md l
def mUriOk (s : S) : Bool := (ints s).all (fun b => decide (33 ≤ b) && decide (b ≤ 126)) && mIn (s.size : Int) 1 20 && decide (bt s 0 = 47)
def pUriOk (s : S) : Prop := sm s
def mBodiless (n : Int) : Bool := decide (n = 204) || decide (n = 304)
def pBodiless (n : Int) : Prop := True
def mResponseOk (r : Rsp) : Bool := mIn r.1 200 599 && mOwnFields r.2.1 && decide ((r.2.2.size : Int) ≤ 60) && (decide (r.2.2 = lit []) || !mBodiless r.1)
def pResponseOk (r : Rsp) : Prop := md r.2.1

/-! ### Directives -/
def mL7Unquote (s : S) : S := if 2 ≤ (s.size : Int) ∧ bt s 0 = 34 ∧ bt s ((s.size : Int) - 1) = 34 then s.extract 1 (s.size - 1) else s
def pL7Unquote (s : S) : Prop := sm s
def dirOf (p : S) : Option Fld := if mIsTokenText (mCut p (lit [61])).1 = true then some (mLower (mCut p (lit [61])).1, mL7Unquote (mCut p (lit [61])).2.1) else none
def nameCC : S := lit [99, 97, 99, 104, 101, 45, 99, 111, 110, 116, 114, 111, 108]
def mDirectives (l : List Fld) : List Fld := (mSplitList (mFieldGet l nameCC).1).filterMap dirOf
def pDirectives (l : List Fld) : Prop := md l
def mCcHas_1 (d : Fld) (n : S) : Bool := decide (d.1 = n)
def pCcHas_1 (d : Fld) (n : S) : Prop := True
def mIndexFunc_CcHas_1 (l : List Fld) (n : S) : Int := idxI (fun d => mCcHas_1 d n) l
def pIndexFunc_CcHas_1 (l : List Fld) (n : S) : Prop := l.length ≤ maxLen
def mContainsFunc_CcHas_1 (l : List Fld) (n : S) : Bool := l.any fun d => mCcHas_1 d n
def pContainsFunc_CcHas_1 (l : List Fld) (n : S) : Prop := l.length ≤ maxLen
def mCcHas (l : List Fld) (n : S) : Bool := (mDirectives l).any fun d => mCcHas_1 d n
def pCcHas (l : List Fld) (n : S) : Prop := md l
def mOnlyStored (q : Req) : Bool := mCcHas q.2.2.1 (lit [111, 110, 108, 121, 45, 105, 102, 45, 99, 97, 99, 104, 101, 100])
def pOnlyStored (q : Req) : Prop := md q

/-! ### What may be stored -/
def mL4Has (l : List Int) (n : Int) : Bool := l.any fun x => decide (x = n)
def pL4Has (l : List Int) (n : Int) : Prop := l.length ≤ maxLen
def mHeuristic (n : Int) : Bool := mL4Has [200, 203, 204, 300, 301, 404, 410] n
def pHeuristic (n : Int) : Prop := True
def mStorable_1 (n : S) (r : Rsp) : Bool := mCcHas r.2.1 n
def pStorable_1 (n : S) (r : Rsp) : Prop := md r.2.1
def sNoStore : S := lit [110, 111, 45, 115, 116, 111, 114, 101]
def sPrivate : S := lit [112, 114, 105, 118, 97, 116, 101]
def sPublic : S := lit [112, 117, 98, 108, 105, 99]
def sMaxAge : S := lit [109, 97, 120, 45, 97, 103, 101]
def sSMaxAge : S := lit [115, 45, 109, 97, 120, 97, 103, 101]
def sMust : S := lit [109, 117, 115, 116, 45, 114, 101, 118, 97, 108, 105, 100, 97, 116, 101]
def sVary : S := lit [118, 97, 114, 121]
def sAuth : S := lit [97, 117, 116, 104, 111, 114, 105, 122, 97, 116, 105, 111, 110]
def sExpires : S := lit [101, 120, 112, 105, 114, 101, 115]
def sGET : S := lit [71, 69, 84]
def mStorable (q : Req) (r : Rsp) : Bool :=
  decide (q.1 = sGET) && mResponseOk r && !decide (r.1 = 304) && !mCcHas q.2.2.1 sNoStore && !mCcHas r.2.1 sNoStore && !mCcHas r.2.1 sPrivate &&
  !mContains_string (mSplitList (mFieldGet r.2.1 sVary).1) (lit [42]) &&
  !(mHasField q.2.2.1 sAuth && !mCcHas r.2.1 sPublic && !mCcHas r.2.1 sSMaxAge && !mCcHas r.2.1 sMust) &&
  (mCcHas r.2.1 sPublic || mCcHas r.2.1 sMaxAge || mCcHas r.2.1 sSMaxAge || mHasField r.2.1 sExpires || mHeuristic r.1)
def pStorable (q : Req) (r : Rsp) : Prop := md q ∧ md r

/-! ### What a response hangs on -/
def mNormal (s : S) : S := mJoin (mSplitList s) (lit [44, 32])
def pNormal (s : S) : Prop := s.size ≤ 4194304
/-- Each once, at its first place. -/
def onceL : List S → List S → List S
  | out, [] => out
  | out, x :: r => onceL (if out.any (fun y => decide (x = y)) then out else out ++ [x]) r
def mVaryNames (r : Rsp) : List S := onceL [] ((mSplitList (mFieldGet r.2.1 sVary).1).map mLower)
def pVaryNames (r : Rsp) : Prop := md r.2.1
def pickOf (q : Req) (n : S) : Option Fld := if (mFieldGet q.2.2.1 n).2 = true then some (n, mNormal (mFieldGet q.2.2.1 n).1) else none
def mPicked (q : Req) (r : Rsp) : List Fld := (mVaryNames r).filterMap (pickOf q)
def pPicked (q : Req) (r : Rsp) : Prop := md q.2.2.1 ∧ md r.2.1
def mVaryFits (q : Req) (r : Rsp) (p : List Fld) : Bool := decide (mPicked q r = p)
def pVaryFits (q : Req) (r : Rsp) (p : List Fld) : Prop := md q.2.2.1 ∧ md r.2.1

/-! ### Shards -/
def mStoredOk (x : Sto) : Bool := mUriOk x.1 && mResponseOk (x.2.2.1, x.2.2.2.1, x.2.2.2.2.1) && mIn x.2.2.2.2.2.1 0 2000000000 && mIn x.2.2.2.2.2.2 x.2.2.2.2.2.1 2000000000 && decide ((x.2.1.length : Int) ≤ 12)
def pStoredOk (x : Sto) : Prop := md x
def mStandAlike (a b : Sto) : Bool := decide (a.1 = b.1) && decide (a.2.1 = b.2.1)
def pStandAlike (a b : Sto) : Prop := a.2.1.length ≤ maxLen
def mShardSizes (a b : Int) : Bool := mIn a 1 8 && mIn b 0 500
def pShardSizes (a b : Int) : Prop := True
def stoOf (x : Slt) : Sto := (x.1, x.2.1, x.2.2.1, x.2.2.2.1, x.2.2.2.2.1, x.2.2.2.2.2.1, x.2.2.2.2.2.2.1)
def mBodies (r : List Slt) : Int := (sumN (r.map fun x => x.2.2.2.2.1.size) : Nat)
def pBodies (r : List Slt) : Prop := md r
def mFilledS (s : Shd) : Int := mBodies s.2.2.1
def pFilledS (s : Shd) : Prop := md s
def mShardOk_1 (y x : Slt) : Bool := mStandAlike (stoOf x) (stoOf y)
def pShardOk_1 (y x : Slt) : Prop := x.2.1.length ≤ maxLen
def mIndexFunc_ShardOk_1 (l : List Slt) (x : Slt) : Int := idxI (fun y => mShardOk_1 y x) l
def pIndexFunc_ShardOk_1 (l : List Slt) (x : Slt) : Prop := l.length ≤ maxLen ∧ x.2.1.length ≤ maxLen
def mContainsFunc_ShardOk_1 (l : List Slt) (x : Slt) : Bool := l.any fun y => mShardOk_1 y x
def pContainsFunc_ShardOk_1 (l : List Slt) (x : Slt) : Prop := l.length ≤ maxLen ∧ x.2.1.length ≤ maxLen
/-- Each one is fine, and unlike those ahead of it. -/
def ringFine (r : List Slt) : Prop := ∀ i, i < r.length → mStoredOk (stoOf (rx r (i : Int))) = true ∧ ∀ j, j < i → mStandAlike (stoOf (rx r (j : Int))) (stoOf (rx r (i : Int))) = false
open Classical in
noncomputable def mShardOk (s : Shd) : Bool := mShardSizes s.1 s.2.1 && decide ((s.2.2.1.length : Int) ≤ s.1) && (decide (s.2.2.2 = 0) || mIn s.2.2.2 0 ((s.2.2.1.length : Int) - 1)) && decide (ringFine s.2.2.1) && decide (mBodies s.2.2.1 ≤ s.2.1)
def pShardOk (s : Shd) : Prop := md s
noncomputable def mFilled (s : Shd) : Int := if mShardOk s = true then mBodies s.2.2.1 else 0
def pFilled (s : Shd) : Prop := md s

/-! ### The origin -/
def resOk (x : Rsc) : Bool := mUriOk x.1 && decide ((x.2.1.size : Int) ≤ 60) && mIn x.2.2.1 1 100000 && mIn x.2.2.2.1 0 2000000000 && decide ((x.2.2.2.2.2.2.length : Int) ≤ 6) && mOwnFields x.2.2.2.2.2.2
/-- Is the resource at a place fine, and its address behind the one ahead of it? -/
def orgAt (o : List Rsc) (i : Nat) : Prop := resOk (rx o (i : Int)) = true ∧ (i = 0 ∨ strLt (rx o ((i - 1 : Nat) : Int)).1 (rx o (i : Int)).1)
open Classical in
noncomputable def mOriginOk (o : List Rsc) : Bool := decide ((∀ i, i < o.length → orgAt o i) ∧ o.length ≤ 8)
def pOriginOk (o : List Rsc) : Prop := md o

/-! ### Flights -/
def sNone : S := lit [105, 102, 45, 110, 111, 110, 101, 45, 109, 97, 116, 99, 104]
def sSince : S := lit [105, 102, 45, 109, 111, 100, 105, 102, 105, 101, 100, 45, 115, 105, 110, 99, 101]
def sNoCache : S := lit [110, 111, 45, 99, 97, 99, 104, 101]
def mItsOwn (q : Req) : Bool := decide (q.1 ≠ sGET) || mHasField q.2.2.1 sAuth || mHasField q.2.2.1 sNone || mHasField q.2.2.1 sSince || mCcHas q.2.2.1 sNoStore || mCcHas q.2.2.1 sNoCache
def pItsOwn (q : Req) : Prop := md q.2.2.1
def fltReq (f : Flt) : Req := (f.2.2.2.2.2.1, f.2.2.2.2.2.2.1, f.2.2.2.2.2.2.2.1, f.2.2.2.2.2.2.2.2.1)
def fltRsp (f : Flt) : Rsp := (f.2.2.2.2.2.2.2.2.2.1, f.2.2.2.2.2.2.2.2.2.2.1, f.2.2.2.2.2.2.2.2.2.2.2.1)
def mMayShare (q : Req) (f : Flt) (now : Int) : Bool := !f.2.1 && f.2.2.2.1 && f.2.2.2.2.1 && mVaryFits q (fltRsp f) (mPicked (fltReq f) (fltRsp f)) && !mItsOwn q
def pMayShare (q : Req) (f : Flt) (now : Int) : Prop := md q ∧ md f

/-! ### Worlds -/
def mBlocked (w : Wld) (i : Int) : Bool :=
  !mIn i 0 ((w.2.2.1.length : Int) - 1) || decide ((rx w.2.2.1 i).1 = 7) ||
    (decide ((rx w.2.2.1 i).1 = 5) && mIn (rx w.2.2.1 i).2.2.2.2.2.2.2.2.2.2.2.2.2.2.2.2.2.2.2.1 0 ((w.2.2.2.2.2.1.length : Int) - 1) &&
      (rx w.2.2.2.2.2.1 (rx w.2.2.1 i).2.2.2.2.2.2.2.2.2.2.2.2.2.2.2.2.2.2.2.1).2.1)
def pBlocked (w : Wld) (i : Int) : Prop := md w
def mAllDone_1 (c : Cnn) : Bool := decide (c.1 ≠ 7)
def pAllDone_1 (c : Cnn) : Prop := True
def mIndexFunc_AllDone_1 (l : List Cnn) (_ : Unit) : Int := idxI mAllDone_1 l
def pIndexFunc_AllDone_1 (l : List Cnn) (_ : Unit) : Prop := l.length ≤ maxLen
def mContainsFunc_AllDone_1 (l : List Cnn) (_ : Unit) : Bool := l.any mAllDone_1
def pContainsFunc_AllDone_1 (l : List Cnn) (_ : Unit) : Prop := l.length ≤ maxLen
def mAllDone (w : Wld) : Bool := !w.2.2.1.any mAllDone_1
def pAllDone (w : Wld) : Prop := md w
end Go.Ev
end

section
/- What the program's functions come to, each by itself: printed by a program of this session's own (EwShow) out of the small machine. -/
set_option linter.unusedVariables false
namespace Go.Ev

def s_ContainsFunc_AllDone_1 (a0 : (List (Int × (S × (Int × (S × (S × ((List Fld) × (S × (S × (S × ((List Fld) × (S × (S × ((List Fld) × (Int × ((List Fld) × (S × (Int × (Int × (Bool × (Int × (Int × (Int × (Int × (Bool × (Int × ((List Fld) × (S × (List (Int × Rsp))))))))))))))))))))))))))))))) (a1 : Unit) (Q : (Bool → Prop)) : Prop :=
  pIndexFunc_AllDone_1 a0 () ∧
  (Q (decide (0 ≤ (mIndexFunc_AllDone_1 a0 ()))))

def s_ContainsFunc_CcHas_1 (a0 : (List Fld)) (a1 : S) (Q : (Bool → Prop)) : Prop :=
  pIndexFunc_CcHas_1 a0 a1 ∧
  (Q (decide (0 ≤ (mIndexFunc_CcHas_1 a0 a1))))

def s_ContainsFunc_FieldsOk_1 (a0 : (List Fld)) (a1 : Unit) (Q : (Bool → Prop)) : Prop :=
  pIndexFunc_FieldsOk_1 a0 () ∧
  (Q (decide (0 ≤ (mIndexFunc_FieldsOk_1 a0 ()))))

def s_ContainsFunc_ShardOk_1 (a0 : (List Slt)) (a1 : Slt) (Q : (Bool → Prop)) : Prop :=
  pIndexFunc_ShardOk_1 a0 a1 ∧
  (Q (decide (0 ≤ (mIndexFunc_ShardOk_1 a0 a1))))

def s_IndexFunc_AllDone_1 (a0 : (List (Int × (S × (Int × (S × (S × ((List Fld) × (S × (S × (S × ((List Fld) × (S × (S × ((List Fld) × (Int × ((List Fld) × (S × (Int × (Int × (Bool × (Int × (Int × (Int × (Int × (Bool × (Int × ((List Fld) × (S × (List (Int × Rsp))))))))))))))))))))))))))))))) (a1 : Unit) (Q : (Int → Prop)) : Prop :=
  (∀ L0 : (Int → Prop),
    ((
        (∀ y1 : Int,
          ((
              (y1 < (a0.length : Int) →
                0 ≤ y1 ∧
                y1 < (a0.length : Int) ∧
                pAllDone_1 (rx a0 y1) ∧
                ((mAllDone_1 (rx a0 y1)) = true →
                  (Q y1)) ∧
                (¬ ((mAllDone_1 (rx a0 y1)) = true) →
                  (L0 (IntKind.i64.wrap (y1 + 1))))) ∧
              (¬ (y1 < (a0.length : Int)) →
                (Q (-1)))
            ) →
            (L0 y1)))
      ) →
      (L0 0)))

def s_IndexFunc_CcHas_1 (a0 : (List Fld)) (a1 : S) (Q : (Int → Prop)) : Prop :=
  (∀ L0 : (Int → Prop),
    ((
        (∀ y1 : Int,
          ((
              (y1 < (a0.length : Int) →
                0 ≤ y1 ∧
                y1 < (a0.length : Int) ∧
                pCcHas_1 (rx a0 y1) a1 ∧
                ((mCcHas_1 (rx a0 y1) a1) = true →
                  (Q y1)) ∧
                (¬ ((mCcHas_1 (rx a0 y1) a1) = true) →
                  (L0 (IntKind.i64.wrap (y1 + 1))))) ∧
              (¬ (y1 < (a0.length : Int)) →
                (Q (-1)))
            ) →
            (L0 y1)))
      ) →
      (L0 0)))

def s_IndexFunc_FieldsOk_1 (a0 : (List Fld)) (a1 : Unit) (Q : (Int → Prop)) : Prop :=
  (∀ L0 : (Int → Prop),
    ((
        (∀ y1 : Int,
          ((
              (y1 < (a0.length : Int) →
                0 ≤ y1 ∧
                y1 < (a0.length : Int) ∧
                pFieldsOk_1 (rx a0 y1) ∧
                ((mFieldsOk_1 (rx a0 y1)) = true →
                  (Q y1)) ∧
                (¬ ((mFieldsOk_1 (rx a0 y1)) = true) →
                  (L0 (IntKind.i64.wrap (y1 + 1))))) ∧
              (¬ (y1 < (a0.length : Int)) →
                (Q (-1)))
            ) →
            (L0 y1)))
      ) →
      (L0 0)))

def s_IndexFunc_ShardOk_1 (a0 : (List Slt)) (a1 : Slt) (Q : (Int → Prop)) : Prop :=
  (∀ L0 : (Int → Prop),
    ((
        (∀ y1 : Int,
          ((
              (y1 < (a0.length : Int) →
                0 ≤ y1 ∧
                y1 < (a0.length : Int) ∧
                pShardOk_1 (rx a0 y1) a1 ∧
                ((mShardOk_1 (rx a0 y1) a1) = true →
                  (Q y1)) ∧
                (¬ ((mShardOk_1 (rx a0 y1) a1) = true) →
                  (L0 (IntKind.i64.wrap (y1 + 1))))) ∧
              (¬ (y1 < (a0.length : Int)) →
                (Q (-1)))
            ) →
            (L0 y1)))
      ) →
      (L0 0)))

def s_impl_AllDone (a0 : (Int × (Int × ((List (Int × (S × (Int × (S × (S × ((List Fld) × (S × (S × (S × ((List Fld) × (S × (S × ((List Fld) × (Int × ((List Fld) × (S × (Int × (Int × (Bool × (Int × (Int × (Int × (Int × (Bool × (Int × ((List Fld) × (S × (List (Int × Rsp)))))))))))))))))))))))))))))) × ((List Shd) × ((List Gen) × ((List Flt) × ((List Rsc) × (List Evt))))))))) (Q : (Bool → Prop)) : Prop :=
  pContainsFunc_AllDone_1 a0.2.2.1 () ∧
  (Q (decide (¬ ((mContainsFunc_AllDone_1 a0.2.2.1 ()) = true))))

def s_impl_AllDone_1 (a0 : (Int × (S × (Int × (S × (S × ((List Fld) × (S × (S × (S × ((List Fld) × (S × (S × ((List Fld) × (Int × ((List Fld) × (S × (Int × (Int × (Bool × (Int × (Int × (Int × (Int × (Bool × (Int × ((List Fld) × (S × (List (Int × Rsp)))))))))))))))))))))))))))))) (Q : (Bool → Prop)) : Prop :=
  (Q (decide (a0.1 ≠ 7)))

def s_impl_Blocked (a0 : (Int × (Int × ((List (Int × (S × (Int × (S × (S × ((List Fld) × (S × (S × (S × ((List Fld) × (S × (S × ((List Fld) × (Int × ((List Fld) × (S × (Int × (Int × (Bool × (Int × (Int × (Int × (Int × (Bool × (Int × ((List Fld) × (S × (List (Int × Rsp)))))))))))))))))))))))))))))) × ((List Shd) × ((List Gen) × ((List Flt) × ((List Rsc) × (List Evt))))))))) (a1 : Int) (Q : (Bool → Prop)) : Prop :=
  pIn a1 0 (IntKind.i64.wrap ((a0.2.2.1.length : Int) - 1)) ∧
  (¬ ((mIn a1 0 (IntKind.i64.wrap ((a0.2.2.1.length : Int) - 1))) = true) →
    (Q true)) ∧
  (¬ (¬ ((mIn a1 0 (IntKind.i64.wrap ((a0.2.2.1.length : Int) - 1))) = true)) →
    0 ≤ a1 ∧
    a1 < (a0.2.2.1.length : Int) ∧
    ((rx a0.2.2.1 a1).1 = 7 →
      (Q true)) ∧
    (¬ ((rx a0.2.2.1 a1).1 = 7) →
      ((rx a0.2.2.1 a1).1 = 5 →
        pIn (rx a0.2.2.1 a1).2.2.2.2.2.2.2.2.2.2.2.2.2.2.2.2.2.2.2.1 0 (IntKind.i64.wrap ((a0.2.2.2.2.2.1.length : Int) - 1)) ∧
        ((mIn (rx a0.2.2.1 a1).2.2.2.2.2.2.2.2.2.2.2.2.2.2.2.2.2.2.2.1 0 (IntKind.i64.wrap ((a0.2.2.2.2.2.1.length : Int) - 1))) = true →
          0 ≤ (rx a0.2.2.1 a1).2.2.2.2.2.2.2.2.2.2.2.2.2.2.2.2.2.2.2.1 ∧
          (rx a0.2.2.1 a1).2.2.2.2.2.2.2.2.2.2.2.2.2.2.2.2.2.2.2.1 < (a0.2.2.2.2.2.1.length : Int) ∧
          (Q (rx a0.2.2.2.2.2.1 (rx a0.2.2.1 a1).2.2.2.2.2.2.2.2.2.2.2.2.2.2.2.2.2.2.2.1).2.1)) ∧
        (¬ ((mIn (rx a0.2.2.1 a1).2.2.2.2.2.2.2.2.2.2.2.2.2.2.2.2.2.2.2.1 0 (IntKind.i64.wrap ((a0.2.2.2.2.2.1.length : Int) - 1))) = true) →
          (Q false))) ∧
      (¬ ((rx a0.2.2.1 a1).1 = 5) →
        (Q false))))

def s_impl_CcHas (a0 : (List Fld)) (a1 : S) (Q : (Bool → Prop)) : Prop :=
  pDirectives a0 ∧
  pContainsFunc_CcHas_1 (mDirectives a0) a1 ∧
  (Q (mContainsFunc_CcHas_1 (mDirectives a0) a1))

def s_impl_CcHas_1 (a0 : Fld) (a1 : S) (Q : (Bool → Prop)) : Prop :=
  (Q (decide (a0.1 = a1)))

def s_impl_Dec (a0 : Int) (Q : (S → Prop)) : Prop :=
  pItoa a0 ∧
  (Q (mItoa a0))

def s_impl_Directives (a0 : (List Fld)) (Q : ((List Fld) → Prop)) : Prop :=
  pFieldGet a0 (lit [99, 97, 99, 104, 101, 45, 99, 111, 110, 116, 114, 111, 108]) ∧
  pSplitList (mFieldGet a0 (lit [99, 97, 99, 104, 101, 45, 99, 111, 110, 116, 114, 111, 108])).1 ∧
  (∀ L0 : (((List Fld) × Int) → Prop),
    ((
        (∀ y1 : ((List Fld) × Int),
          ((
              (y1.2 < ((mSplitList (mFieldGet a0 (lit [99, 97, 99, 104, 101, 45, 99, 111, 110, 116, 114, 111, 108])).1).length : Int) →
                0 ≤ y1.2 ∧
                y1.2 < ((mSplitList (mFieldGet a0 (lit [99, 97, 99, 104, 101, 45, 99, 111, 110, 116, 114, 111, 108])).1).length : Int) ∧
                pCut (rx (mSplitList (mFieldGet a0 (lit [99, 97, 99, 104, 101, 45, 99, 111, 110, 116, 114, 111, 108])).1) y1.2) (lit [61]) ∧
                pIsTokenText (mCut (rx (mSplitList (mFieldGet a0 (lit [99, 97, 99, 104, 101, 45, 99, 111, 110, 116, 114, 111, 108])).1) y1.2) (lit [61])).1 ∧
                (¬ ((mIsTokenText (mCut (rx (mSplitList (mFieldGet a0 (lit [99, 97, 99, 104, 101, 45, 99, 111, 110, 116, 114, 111, 108])).1) y1.2) (lit [61])).1) = true) →
                  (L0 (y1.1, (IntKind.i64.wrap (y1.2 + 1))))) ∧
                (¬ (¬ ((mIsTokenText (mCut (rx (mSplitList (mFieldGet a0 (lit [99, 97, 99, 104, 101, 45, 99, 111, 110, 116, 114, 111, 108])).1) y1.2) (lit [61])).1) = true)) →
                  (2 ≤ ((mCut (rx (mSplitList (mFieldGet a0 (lit [99, 97, 99, 104, 101, 45, 99, 111, 110, 116, 114, 111, 108])).1) y1.2) (lit [61])).2.1.size : Int) →
                    (0 : Int) ≤ 0 ∧
                    0 < ((mCut (rx (mSplitList (mFieldGet a0 (lit [99, 97, 99, 104, 101, 45, 99, 111, 110, 116, 114, 111, 108])).1) y1.2) (lit [61])).2.1.size : Int) ∧
                    ((bt (mCut (rx (mSplitList (mFieldGet a0 (lit [99, 97, 99, 104, 101, 45, 99, 111, 110, 116, 114, 111, 108])).1) y1.2) (lit [61])).2.1 0) = 34 →
                      0 ≤ (IntKind.i64.wrap (((mCut (rx (mSplitList (mFieldGet a0 (lit [99, 97, 99, 104, 101, 45, 99, 111, 110, 116, 114, 111, 108])).1) y1.2) (lit [61])).2.1.size : Int) - 1)) ∧
                      (IntKind.i64.wrap (((mCut (rx (mSplitList (mFieldGet a0 (lit [99, 97, 99, 104, 101, 45, 99, 111, 110, 116, 114, 111, 108])).1) y1.2) (lit [61])).2.1.size : Int) - 1)) < ((mCut (rx (mSplitList (mFieldGet a0 (lit [99, 97, 99, 104, 101, 45, 99, 111, 110, 116, 114, 111, 108])).1) y1.2) (lit [61])).2.1.size : Int) ∧
                      ((bt (mCut (rx (mSplitList (mFieldGet a0 (lit [99, 97, 99, 104, 101, 45, 99, 111, 110, 116, 114, 111, 108])).1) y1.2) (lit [61])).2.1 (IntKind.i64.wrap (((mCut (rx (mSplitList (mFieldGet a0 (lit [99, 97, 99, 104, 101, 45, 99, 111, 110, 116, 114, 111, 108])).1) y1.2) (lit [61])).2.1.size : Int) - 1))) = 34 →
                        (0 : Int) ≤ 1 ∧
                        1 ≤ (IntKind.i64.wrap (((mCut (rx (mSplitList (mFieldGet a0 (lit [99, 97, 99, 104, 101, 45, 99, 111, 110, 116, 114, 111, 108])).1) y1.2) (lit [61])).2.1.size : Int) - 1)) ∧
                        (IntKind.i64.wrap (((mCut (rx (mSplitList (mFieldGet a0 (lit [99, 97, 99, 104, 101, 45, 99, 111, 110, 116, 114, 111, 108])).1) y1.2) (lit [61])).2.1.size : Int) - 1)) ≤ ((mCut (rx (mSplitList (mFieldGet a0 (lit [99, 97, 99, 104, 101, 45, 99, 111, 110, 116, 114, 111, 108])).1) y1.2) (lit [61])).2.1.size : Int) ∧
                        pLower (mCut (rx (mSplitList (mFieldGet a0 (lit [99, 97, 99, 104, 101, 45, 99, 111, 110, 116, 114, 111, 108])).1) y1.2) (lit [61])).1 ∧
                        (y1.1.length + [((mLower (mCut (rx (mSplitList (mFieldGet a0 (lit [99, 97, 99, 104, 101, 45, 99, 111, 110, 116, 114, 111, 108])).1) y1.2) (lit [61])).1), ((mCut (rx (mSplitList (mFieldGet a0 (lit [99, 97, 99, 104, 101, 45, 99, 111, 110, 116, 114, 111, 108])).1) y1.2) (lit [61])).2.1.extract ((1 : Int).toNat) (IntKind.i64.wrap (((mCut (rx (mSplitList (mFieldGet a0 (lit [99, 97, 99, 104, 101, 45, 99, 111, 110, 116, 114, 111, 108])).1) y1.2) (lit [61])).2.1.size : Int) - 1)).toNat))].length) * 32 ≤ 140737488355328 ∧
                        (L0 ((y1.1 ++ [((mLower (mCut (rx (mSplitList (mFieldGet a0 (lit [99, 97, 99, 104, 101, 45, 99, 111, 110, 116, 114, 111, 108])).1) y1.2) (lit [61])).1), ((mCut (rx (mSplitList (mFieldGet a0 (lit [99, 97, 99, 104, 101, 45, 99, 111, 110, 116, 114, 111, 108])).1) y1.2) (lit [61])).2.1.extract ((1 : Int).toNat) (IntKind.i64.wrap (((mCut (rx (mSplitList (mFieldGet a0 (lit [99, 97, 99, 104, 101, 45, 99, 111, 110, 116, 114, 111, 108])).1) y1.2) (lit [61])).2.1.size : Int) - 1)).toNat))]), (IntKind.i64.wrap (y1.2 + 1))))) ∧
                      (¬ ((bt (mCut (rx (mSplitList (mFieldGet a0 (lit [99, 97, 99, 104, 101, 45, 99, 111, 110, 116, 114, 111, 108])).1) y1.2) (lit [61])).2.1 (IntKind.i64.wrap (((mCut (rx (mSplitList (mFieldGet a0 (lit [99, 97, 99, 104, 101, 45, 99, 111, 110, 116, 114, 111, 108])).1) y1.2) (lit [61])).2.1.size : Int) - 1))) = 34) →
                        pLower (mCut (rx (mSplitList (mFieldGet a0 (lit [99, 97, 99, 104, 101, 45, 99, 111, 110, 116, 114, 111, 108])).1) y1.2) (lit [61])).1 ∧
                        (y1.1.length + [((mLower (mCut (rx (mSplitList (mFieldGet a0 (lit [99, 97, 99, 104, 101, 45, 99, 111, 110, 116, 114, 111, 108])).1) y1.2) (lit [61])).1), (mCut (rx (mSplitList (mFieldGet a0 (lit [99, 97, 99, 104, 101, 45, 99, 111, 110, 116, 114, 111, 108])).1) y1.2) (lit [61])).2.1)].length) * 32 ≤ 140737488355328 ∧
                        (L0 ((y1.1 ++ [((mLower (mCut (rx (mSplitList (mFieldGet a0 (lit [99, 97, 99, 104, 101, 45, 99, 111, 110, 116, 114, 111, 108])).1) y1.2) (lit [61])).1), (mCut (rx (mSplitList (mFieldGet a0 (lit [99, 97, 99, 104, 101, 45, 99, 111, 110, 116, 114, 111, 108])).1) y1.2) (lit [61])).2.1)]), (IntKind.i64.wrap (y1.2 + 1)))))) ∧
                    (¬ ((bt (mCut (rx (mSplitList (mFieldGet a0 (lit [99, 97, 99, 104, 101, 45, 99, 111, 110, 116, 114, 111, 108])).1) y1.2) (lit [61])).2.1 0) = 34) →
                      pLower (mCut (rx (mSplitList (mFieldGet a0 (lit [99, 97, 99, 104, 101, 45, 99, 111, 110, 116, 114, 111, 108])).1) y1.2) (lit [61])).1 ∧
                      (y1.1.length + [((mLower (mCut (rx (mSplitList (mFieldGet a0 (lit [99, 97, 99, 104, 101, 45, 99, 111, 110, 116, 114, 111, 108])).1) y1.2) (lit [61])).1), (mCut (rx (mSplitList (mFieldGet a0 (lit [99, 97, 99, 104, 101, 45, 99, 111, 110, 116, 114, 111, 108])).1) y1.2) (lit [61])).2.1)].length) * 32 ≤ 140737488355328 ∧
                      (L0 ((y1.1 ++ [((mLower (mCut (rx (mSplitList (mFieldGet a0 (lit [99, 97, 99, 104, 101, 45, 99, 111, 110, 116, 114, 111, 108])).1) y1.2) (lit [61])).1), (mCut (rx (mSplitList (mFieldGet a0 (lit [99, 97, 99, 104, 101, 45, 99, 111, 110, 116, 114, 111, 108])).1) y1.2) (lit [61])).2.1)]), (IntKind.i64.wrap (y1.2 + 1)))))) ∧
                  (¬ (2 ≤ ((mCut (rx (mSplitList (mFieldGet a0 (lit [99, 97, 99, 104, 101, 45, 99, 111, 110, 116, 114, 111, 108])).1) y1.2) (lit [61])).2.1.size : Int)) →
                    pLower (mCut (rx (mSplitList (mFieldGet a0 (lit [99, 97, 99, 104, 101, 45, 99, 111, 110, 116, 114, 111, 108])).1) y1.2) (lit [61])).1 ∧
                    (y1.1.length + [((mLower (mCut (rx (mSplitList (mFieldGet a0 (lit [99, 97, 99, 104, 101, 45, 99, 111, 110, 116, 114, 111, 108])).1) y1.2) (lit [61])).1), (mCut (rx (mSplitList (mFieldGet a0 (lit [99, 97, 99, 104, 101, 45, 99, 111, 110, 116, 114, 111, 108])).1) y1.2) (lit [61])).2.1)].length) * 32 ≤ 140737488355328 ∧
                    (L0 ((y1.1 ++ [((mLower (mCut (rx (mSplitList (mFieldGet a0 (lit [99, 97, 99, 104, 101, 45, 99, 111, 110, 116, 114, 111, 108])).1) y1.2) (lit [61])).1), (mCut (rx (mSplitList (mFieldGet a0 (lit [99, 97, 99, 104, 101, 45, 99, 111, 110, 116, 114, 111, 108])).1) y1.2) (lit [61])).2.1)]), (IntKind.i64.wrap (y1.2 + 1))))))) ∧
              (¬ (y1.2 < ((mSplitList (mFieldGet a0 (lit [99, 97, 99, 104, 101, 45, 99, 111, 110, 116, 114, 111, 108])).1).length : Int)) →
                (Q y1.1))
            ) →
            (L0 y1)))
      ) →
      (L0 ([], 0))))

def s_impl_FieldGet (a0 : (List Fld)) (a1 : S) (Q : ((S × Bool) → Prop)) : Prop :=
  (∀ L0 : (((List S) × Int) → Prop),
    ((
        (∀ y1 : ((List S) × Int),
          ((
              (y1.2 < (a0.length : Int) →
                0 ≤ y1.2 ∧
                y1.2 < (a0.length : Int) ∧
                ((rx a0 y1.2).1 = a1 →
                  (y1.1.length + [(rx a0 y1.2).2].length) * 16 ≤ 140737488355328 ∧
                  (L0 ((y1.1 ++ [(rx a0 y1.2).2]), (IntKind.i64.wrap (y1.2 + 1))))) ∧
                (¬ ((rx a0 y1.2).1 = a1) →
                  (L0 (y1.1, (IntKind.i64.wrap (y1.2 + 1)))))) ∧
              (¬ (y1.2 < (a0.length : Int)) →
                pJoin y1.1 (lit [44, 32]) ∧
                (Q ((mJoin y1.1 (lit [44, 32])), (decide (0 < (y1.1.length : Int))))))
            ) →
            (L0 y1)))
      ) →
      (L0 ([], 0))))

def s_impl_FieldsOk (a0 : (List Fld)) (Q : (Bool → Prop)) : Prop :=
  ((a0.length : Int) ≤ 12 →
    pContainsFunc_FieldsOk_1 a0 () ∧
    (Q (decide (¬ ((mContainsFunc_FieldsOk_1 a0 ()) = true))))) ∧
  (¬ ((a0.length : Int) ≤ 12) →
    (Q false))

def s_impl_FieldsOk_1 (a0 : Fld) (Q : (Bool → Prop)) : Prop :=
  pFieldOk a0 ∧
  (Q (decide (¬ ((mFieldOk a0) = true))))

def s_impl_Filled (a0 : Shd) (Q : (Int → Prop)) : Prop :=
  pShardOk a0 ∧
  (¬ ((mShardOk a0) = true) →
    (Q 0)) ∧
  (¬ (¬ ((mShardOk a0) = true)) →
    pBodies a0.2.2.1 ∧
    (Q (mBodies a0.2.2.1)))

def s_impl_Heuristic (a0 : Int) (Q : (Bool → Prop)) : Prop :=
  (a0 = 200 →
    (a0 = 200 →
      (Q true)) ∧
    (¬ (a0 = 200) →
      (Q false))) ∧
  (¬ (a0 = 200) →
    (a0 = 203 →
      (a0 = 203 →
        (Q true)) ∧
      (¬ (a0 = 203) →
        (Q false))) ∧
    (¬ (a0 = 203) →
      (a0 = 204 →
        (a0 = 204 →
          (Q true)) ∧
        (¬ (a0 = 204) →
          (Q false))) ∧
      (¬ (a0 = 204) →
        (a0 = 300 →
          (a0 = 300 →
            (Q true)) ∧
          (¬ (a0 = 300) →
            (Q false))) ∧
        (¬ (a0 = 300) →
          (a0 = 301 →
            (a0 = 301 →
              (Q true)) ∧
            (¬ (a0 = 301) →
              (Q false))) ∧
          (¬ (a0 = 301) →
            (a0 = 404 →
              (a0 = 404 →
                (Q true)) ∧
              (¬ (a0 = 404) →
                (Q false))) ∧
            (¬ (a0 = 404) →
              (a0 = 410 →
                (Q true)) ∧
              (¬ (a0 = 410) →
                (Q false))))))))

def s_impl_IsTokenText (a0 : S) (Q : (Bool → Prop)) : Prop :=
  (∀ L0 : (Int → Prop),
    ((
        (∀ y1 : Int,
          ((
              (y1 < (a0.size : Int) →
                0 ≤ y1 ∧
                y1 < (a0.size : Int) ∧
                pIsLetterOrDigit (bt a0 y1) ∧
                (¬ ((mIsLetterOrDigit (bt a0 y1)) = true) →
                  0 ≤ y1 ∧
                  y1 < (a0.size : Int) ∧
                  pIndexByte (lit [33, 35, 36, 37, 38, 39, 42, 43, 45, 46, 94, 95, 124, 126, 96]) (bt a0 y1) ∧
                  ((mIndexByte (lit [33, 35, 36, 37, 38, 39, 42, 43, 45, 46, 94, 95, 124, 126, 96]) (bt a0 y1)) < 0 →
                    (Q false)) ∧
                  (¬ ((mIndexByte (lit [33, 35, 36, 37, 38, 39, 42, 43, 45, 46, 94, 95, 124, 126, 96]) (bt a0 y1)) < 0) →
                    (L0 (IntKind.i64.wrap (y1 + 1))))) ∧
                (¬ (¬ ((mIsLetterOrDigit (bt a0 y1)) = true)) →
                  (L0 (IntKind.i64.wrap (y1 + 1))))) ∧
              (¬ (y1 < (a0.size : Int)) →
                (Q (decide (a0 ≠ (lit [])))))
            ) →
            (L0 y1)))
      ) →
      (L0 0)))

def s_impl_IsValueText (a0 : S) (Q : (Bool → Prop)) : Prop :=
  (∀ L0 : (Int → Prop),
    ((
        (∀ y1 : Int,
          ((
              (y1 < (a0.size : Int) →
                0 ≤ y1 ∧
                y1 < (a0.size : Int) ∧
                ((bt a0 y1) < 32 →
                  0 ≤ y1 ∧
                  y1 < (a0.size : Int) ∧
                  ((bt a0 y1) ≠ 9 →
                    (Q false)) ∧
                  (¬ ((bt a0 y1) ≠ 9) →
                    0 ≤ y1 ∧
                    y1 < (a0.size : Int) ∧
                    ((bt a0 y1) = 127 →
                      (Q false)) ∧
                    (¬ ((bt a0 y1) = 127) →
                      (L0 (IntKind.i64.wrap (y1 + 1)))))) ∧
                (¬ ((bt a0 y1) < 32) →
                  0 ≤ y1 ∧
                  y1 < (a0.size : Int) ∧
                  ((bt a0 y1) = 127 →
                    (Q false)) ∧
                  (¬ ((bt a0 y1) = 127) →
                    (L0 (IntKind.i64.wrap (y1 + 1)))))) ∧
              (¬ (y1 < (a0.size : Int)) →
                pTrim a0 ∧
                (Q (decide ((mTrim a0) = a0))))
            ) →
            (L0 y1)))
      ) →
      (L0 0)))

def s_impl_MayShare (a0 : Req) (a1 : Flt) (a2 : Int) (Q : (Bool → Prop)) : Prop :=
  (¬ (a1.2.1 = true) →
    (a1.2.2.2.1 = true →
      (a1.2.2.2.2.1 = true →
        pPicked (a1.2.2.2.2.2.1, a1.2.2.2.2.2.2.1, a1.2.2.2.2.2.2.2.1, a1.2.2.2.2.2.2.2.2.1) (a1.2.2.2.2.2.2.2.2.2.1, a1.2.2.2.2.2.2.2.2.2.2.1, a1.2.2.2.2.2.2.2.2.2.2.2.1) ∧
        pVaryFits a0 (a1.2.2.2.2.2.2.2.2.2.1, a1.2.2.2.2.2.2.2.2.2.2.1, a1.2.2.2.2.2.2.2.2.2.2.2.1) (mPicked (a1.2.2.2.2.2.1, a1.2.2.2.2.2.2.1, a1.2.2.2.2.2.2.2.1, a1.2.2.2.2.2.2.2.2.1) (a1.2.2.2.2.2.2.2.2.2.1, a1.2.2.2.2.2.2.2.2.2.2.1, a1.2.2.2.2.2.2.2.2.2.2.2.1)) ∧
        ((mVaryFits a0 (a1.2.2.2.2.2.2.2.2.2.1, a1.2.2.2.2.2.2.2.2.2.2.1, a1.2.2.2.2.2.2.2.2.2.2.2.1) (mPicked (a1.2.2.2.2.2.1, a1.2.2.2.2.2.2.1, a1.2.2.2.2.2.2.2.1, a1.2.2.2.2.2.2.2.2.1) (a1.2.2.2.2.2.2.2.2.2.1, a1.2.2.2.2.2.2.2.2.2.2.1, a1.2.2.2.2.2.2.2.2.2.2.2.1))) = true →
          pItsOwn a0 ∧
          (Q (decide (¬ ((mItsOwn a0) = true))))) ∧
        (¬ ((mVaryFits a0 (a1.2.2.2.2.2.2.2.2.2.1, a1.2.2.2.2.2.2.2.2.2.2.1, a1.2.2.2.2.2.2.2.2.2.2.2.1) (mPicked (a1.2.2.2.2.2.1, a1.2.2.2.2.2.2.1, a1.2.2.2.2.2.2.2.1, a1.2.2.2.2.2.2.2.2.1) (a1.2.2.2.2.2.2.2.2.2.1, a1.2.2.2.2.2.2.2.2.2.2.1, a1.2.2.2.2.2.2.2.2.2.2.2.1))) = true) →
          (Q false))) ∧
      (¬ (a1.2.2.2.2.1 = true) →
        (Q false))) ∧
    (¬ (a1.2.2.2.1 = true) →
      (Q false))) ∧
  (¬ (¬ (a1.2.1 = true)) →
    (Q false))

def s_impl_Normal (a0 : S) (Q : (S → Prop)) : Prop :=
  pSplitList a0 ∧
  pJoin (mSplitList a0) (lit [44, 32]) ∧
  (Q (mJoin (mSplitList a0) (lit [44, 32])))

def s_impl_OnlyStored (a0 : Req) (Q : (Bool → Prop)) : Prop :=
  pCcHas a0.2.2.1 (lit [111, 110, 108, 121, 45, 105, 102, 45, 99, 97, 99, 104, 101, 100]) ∧
  (Q (mCcHas a0.2.2.1 (lit [111, 110, 108, 121, 45, 105, 102, 45, 99, 97, 99, 104, 101, 100])))

def s_impl_OriginOk (a0 : (List Rsc)) (Q : (Bool → Prop)) : Prop :=
  (∀ L0 : (Int → Prop),
    ((
        (∀ y1 : Int,
          ((
              (y1 < (a0.length : Int) →
                0 ≤ y1 ∧
                y1 < (a0.length : Int) ∧
                pUriOk (rx a0 y1).1 ∧
                (¬ ((mUriOk (rx a0 y1).1) = true) →
                  (Q false)) ∧
                (¬ (¬ ((mUriOk (rx a0 y1).1) = true)) →
                  (0 < y1 →
                    0 ≤ (IntKind.i64.wrap (y1 - 1)) ∧
                    (IntKind.i64.wrap (y1 - 1)) < (a0.length : Int) ∧
                    (¬ (strLt (rx a0 (IntKind.i64.wrap (y1 - 1))).1 (rx a0 y1).1) →
                      (Q false)) ∧
                    (¬ (¬ (strLt (rx a0 (IntKind.i64.wrap (y1 - 1))).1 (rx a0 y1).1)) →
                      (60 < ((rx a0 y1).2.1.size : Int) →
                        (Q false)) ∧
                      (¬ (60 < ((rx a0 y1).2.1.size : Int)) →
                        pIn (rx a0 y1).2.2.1 1 100000 ∧
                        (¬ ((mIn (rx a0 y1).2.2.1 1 100000) = true) →
                          (Q false)) ∧
                        (¬ (¬ ((mIn (rx a0 y1).2.2.1 1 100000) = true)) →
                          pIn (rx a0 y1).2.2.2.1 0 2000000000 ∧
                          (¬ ((mIn (rx a0 y1).2.2.2.1 0 2000000000) = true) →
                            (Q false)) ∧
                          (¬ (¬ ((mIn (rx a0 y1).2.2.2.1 0 2000000000) = true)) →
                            (6 < ((rx a0 y1).2.2.2.2.2.2.length : Int) →
                              (Q false)) ∧
                            (¬ (6 < ((rx a0 y1).2.2.2.2.2.2.length : Int)) →
                              pOwnFields (rx a0 y1).2.2.2.2.2.2 ∧
                              (¬ ((mOwnFields (rx a0 y1).2.2.2.2.2.2) = true) →
                                (Q false)) ∧
                              (¬ (¬ ((mOwnFields (rx a0 y1).2.2.2.2.2.2) = true)) →
                                (L0 (IntKind.i64.wrap (y1 + 1)))))))))) ∧
                  (¬ (0 < y1) →
                    (60 < ((rx a0 y1).2.1.size : Int) →
                      (Q false)) ∧
                    (¬ (60 < ((rx a0 y1).2.1.size : Int)) →
                      pIn (rx a0 y1).2.2.1 1 100000 ∧
                      (¬ ((mIn (rx a0 y1).2.2.1 1 100000) = true) →
                        (Q false)) ∧
                      (¬ (¬ ((mIn (rx a0 y1).2.2.1 1 100000) = true)) →
                        pIn (rx a0 y1).2.2.2.1 0 2000000000 ∧
                        (¬ ((mIn (rx a0 y1).2.2.2.1 0 2000000000) = true) →
                          (Q false)) ∧
                        (¬ (¬ ((mIn (rx a0 y1).2.2.2.1 0 2000000000) = true)) →
                          (6 < ((rx a0 y1).2.2.2.2.2.2.length : Int) →
                            (Q false)) ∧
                          (¬ (6 < ((rx a0 y1).2.2.2.2.2.2.length : Int)) →
                            pOwnFields (rx a0 y1).2.2.2.2.2.2 ∧
                            (¬ ((mOwnFields (rx a0 y1).2.2.2.2.2.2) = true) →
                              (Q false)) ∧
                            (¬ (¬ ((mOwnFields (rx a0 y1).2.2.2.2.2.2) = true)) →
                              (L0 (IntKind.i64.wrap (y1 + 1))))))))))) ∧
              (¬ (y1 < (a0.length : Int)) →
                (Q (decide ((a0.length : Int) ≤ 8))))
            ) →
            (L0 y1)))
      ) →
      (L0 0)))

def s_impl_Picked (a0 : Req) (a1 : Rsp) (Q : ((List Fld) → Prop)) : Prop :=
  pVaryNames a1 ∧
  (∀ L0 : (((List Fld) × Int) → Prop),
    ((
        (∀ y1 : ((List Fld) × Int),
          ((
              (y1.2 < ((mVaryNames a1).length : Int) →
                0 ≤ y1.2 ∧
                y1.2 < ((mVaryNames a1).length : Int) ∧
                pFieldGet a0.2.2.1 (rx (mVaryNames a1) y1.2) ∧
                ((mFieldGet a0.2.2.1 (rx (mVaryNames a1) y1.2)).2 = true →
                  pNormal (mFieldGet a0.2.2.1 (rx (mVaryNames a1) y1.2)).1 ∧
                  (y1.1.length + [((rx (mVaryNames a1) y1.2), (mNormal (mFieldGet a0.2.2.1 (rx (mVaryNames a1) y1.2)).1))].length) * 32 ≤ 140737488355328 ∧
                  (L0 ((y1.1 ++ [((rx (mVaryNames a1) y1.2), (mNormal (mFieldGet a0.2.2.1 (rx (mVaryNames a1) y1.2)).1))]), (IntKind.i64.wrap (y1.2 + 1))))) ∧
                (¬ ((mFieldGet a0.2.2.1 (rx (mVaryNames a1) y1.2)).2 = true) →
                  (L0 (y1.1, (IntKind.i64.wrap (y1.2 + 1)))))) ∧
              (¬ (y1.2 < ((mVaryNames a1).length : Int)) →
                (Q y1.1))
            ) →
            (L0 y1)))
      ) →
      (L0 ([], 0))))

def s_impl_ResponseOk (a0 : Rsp) (Q : (Bool → Prop)) : Prop :=
  pIn a0.1 200 599 ∧
  ((mIn a0.1 200 599) = true →
    pOwnFields a0.2.1 ∧
    ((mOwnFields a0.2.1) = true →
      ((a0.2.2.size : Int) ≤ 60 →
        (a0.2.2 = (lit []) →
          (Q true)) ∧
        (¬ (a0.2.2 = (lit [])) →
          pBodiless a0.1 ∧
          (Q (decide (¬ ((mBodiless a0.1) = true)))))) ∧
      (¬ ((a0.2.2.size : Int) ≤ 60) →
        (Q false))) ∧
    (¬ ((mOwnFields a0.2.1) = true) →
      (Q false))) ∧
  (¬ ((mIn a0.1 200 599) = true) →
    (Q false))

def s_impl_SameFields (a0 : (List Fld)) (a1 : (List Fld)) (Q : (Bool → Prop)) : Prop :=
  pEqual_Field a0 a1 ∧
  (Q (mEqual_Field a0 a1))

def s_impl_ShardOk (a0 : Shd) (Q : (Bool → Prop)) : Prop :=
  pShardSizes a0.1 a0.2.1 ∧
  (¬ ((mShardSizes a0.1 a0.2.1) = true) →
    (Q false)) ∧
  (¬ (¬ ((mShardSizes a0.1 a0.2.1) = true)) →
    (a0.1 < (a0.2.2.1.length : Int) →
      (Q false)) ∧
    (¬ (a0.1 < (a0.2.2.1.length : Int)) →
      (a0.2.2.2 ≠ 0 →
        pIn a0.2.2.2 0 (IntKind.i64.wrap ((a0.2.2.1.length : Int) - 1)) ∧
        (¬ ((mIn a0.2.2.2 0 (IntKind.i64.wrap ((a0.2.2.1.length : Int) - 1))) = true) →
          (Q false)) ∧
        (¬ (¬ ((mIn a0.2.2.2 0 (IntKind.i64.wrap ((a0.2.2.1.length : Int) - 1))) = true)) →
          (∀ L0 : (Int → Prop),
            ((
                (∀ y1 : Int,
                  ((
                      (y1 < (a0.2.2.1.length : Int) →
                        0 ≤ y1 ∧
                        y1 < (a0.2.2.1.length : Int) ∧
                        pStoredOk ((rx a0.2.2.1 y1).1, (rx a0.2.2.1 y1).2.1, (rx a0.2.2.1 y1).2.2.1, (rx a0.2.2.1 y1).2.2.2.1, (rx a0.2.2.1 y1).2.2.2.2.1, (rx a0.2.2.1 y1).2.2.2.2.2.1, (rx a0.2.2.1 y1).2.2.2.2.2.2.1) ∧
                        (¬ ((mStoredOk ((rx a0.2.2.1 y1).1, (rx a0.2.2.1 y1).2.1, (rx a0.2.2.1 y1).2.2.1, (rx a0.2.2.1 y1).2.2.2.1, (rx a0.2.2.1 y1).2.2.2.2.1, (rx a0.2.2.1 y1).2.2.2.2.2.1, (rx a0.2.2.1 y1).2.2.2.2.2.2.1)) = true) →
                          (Q false)) ∧
                        (¬ (¬ ((mStoredOk ((rx a0.2.2.1 y1).1, (rx a0.2.2.1 y1).2.1, (rx a0.2.2.1 y1).2.2.1, (rx a0.2.2.1 y1).2.2.2.1, (rx a0.2.2.1 y1).2.2.2.2.1, (rx a0.2.2.1 y1).2.2.2.2.2.1, (rx a0.2.2.1 y1).2.2.2.2.2.2.1)) = true)) →
                          0 ≤ y1 ∧
                          y1 ≤ (a0.2.2.1.length : Int) ∧
                          pContainsFunc_ShardOk_1 (a0.2.2.1.take y1.toNat) (rx a0.2.2.1 y1) ∧
                          ((mContainsFunc_ShardOk_1 (a0.2.2.1.take y1.toNat) (rx a0.2.2.1 y1)) = true →
                            (Q false)) ∧
                          (¬ ((mContainsFunc_ShardOk_1 (a0.2.2.1.take y1.toNat) (rx a0.2.2.1 y1)) = true) →
                            (L0 (IntKind.i64.wrap (y1 + 1)))))) ∧
                      (¬ (y1 < (a0.2.2.1.length : Int)) →
                        pBodies a0.2.2.1 ∧
                        (Q (decide ((mBodies a0.2.2.1) ≤ a0.2.1))))
                    ) →
                    (L0 y1)))
              ) →
              (L0 0))))) ∧
      (¬ (a0.2.2.2 ≠ 0) →
        (∀ L2 : (Int → Prop),
          ((
              (∀ y3 : Int,
                ((
                    (y3 < (a0.2.2.1.length : Int) →
                      0 ≤ y3 ∧
                      y3 < (a0.2.2.1.length : Int) ∧
                      pStoredOk ((rx a0.2.2.1 y3).1, (rx a0.2.2.1 y3).2.1, (rx a0.2.2.1 y3).2.2.1, (rx a0.2.2.1 y3).2.2.2.1, (rx a0.2.2.1 y3).2.2.2.2.1, (rx a0.2.2.1 y3).2.2.2.2.2.1, (rx a0.2.2.1 y3).2.2.2.2.2.2.1) ∧
                      (¬ ((mStoredOk ((rx a0.2.2.1 y3).1, (rx a0.2.2.1 y3).2.1, (rx a0.2.2.1 y3).2.2.1, (rx a0.2.2.1 y3).2.2.2.1, (rx a0.2.2.1 y3).2.2.2.2.1, (rx a0.2.2.1 y3).2.2.2.2.2.1, (rx a0.2.2.1 y3).2.2.2.2.2.2.1)) = true) →
                        (Q false)) ∧
                      (¬ (¬ ((mStoredOk ((rx a0.2.2.1 y3).1, (rx a0.2.2.1 y3).2.1, (rx a0.2.2.1 y3).2.2.1, (rx a0.2.2.1 y3).2.2.2.1, (rx a0.2.2.1 y3).2.2.2.2.1, (rx a0.2.2.1 y3).2.2.2.2.2.1, (rx a0.2.2.1 y3).2.2.2.2.2.2.1)) = true)) →
                        0 ≤ y3 ∧
                        y3 ≤ (a0.2.2.1.length : Int) ∧
                        pContainsFunc_ShardOk_1 (a0.2.2.1.take y3.toNat) (rx a0.2.2.1 y3) ∧
                        ((mContainsFunc_ShardOk_1 (a0.2.2.1.take y3.toNat) (rx a0.2.2.1 y3)) = true →
                          (Q false)) ∧
                        (¬ ((mContainsFunc_ShardOk_1 (a0.2.2.1.take y3.toNat) (rx a0.2.2.1 y3)) = true) →
                          (L2 (IntKind.i64.wrap (y3 + 1)))))) ∧
                    (¬ (y3 < (a0.2.2.1.length : Int)) →
                      pBodies a0.2.2.1 ∧
                      (Q (decide ((mBodies a0.2.2.1) ≤ a0.2.1))))
                  ) →
                  (L2 y3)))
            ) →
            (L2 0))))))

def s_impl_ShardOk_1 (a0 : Slt) (a1 : Slt) (Q : (Bool → Prop)) : Prop :=
  pStandAlike (a1.1, a1.2.1, a1.2.2.1, a1.2.2.2.1, a1.2.2.2.2.1, a1.2.2.2.2.2.1, a1.2.2.2.2.2.2.1) (a0.1, a0.2.1, a0.2.2.1, a0.2.2.2.1, a0.2.2.2.2.1, a0.2.2.2.2.2.1, a0.2.2.2.2.2.2.1) ∧
  (Q (mStandAlike (a1.1, a1.2.1, a1.2.2.1, a1.2.2.2.1, a1.2.2.2.2.1, a1.2.2.2.2.2.1, a1.2.2.2.2.2.2.1) (a0.1, a0.2.1, a0.2.2.1, a0.2.2.2.1, a0.2.2.2.2.1, a0.2.2.2.2.2.1, a0.2.2.2.2.2.2.1)))

def s_impl_SplitList (a0 : S) (Q : ((List S) → Prop)) : Prop :=
  pCommas a0 ∧
  ((mCommas a0).length + [(a0.size : Int)].length) * 8 ≤ 140737488355328 ∧
  (∀ L0 : (((List S) × (Int × Int)) → Prop),
    ((
        (∀ y1 : ((List S) × (Int × Int)),
          ((
              (y1.2.2 < (((mCommas a0) ++ [(a0.size : Int)]).length : Int) →
                0 ≤ y1.2.2 ∧
                y1.2.2 < (((mCommas a0) ++ [(a0.size : Int)]).length : Int) ∧
                0 ≤ y1.2.1 ∧
                y1.2.1 ≤ (rx ((mCommas a0) ++ [(a0.size : Int)]) y1.2.2) ∧
                (rx ((mCommas a0) ++ [(a0.size : Int)]) y1.2.2) ≤ (a0.size : Int) ∧
                pTrim (a0.extract y1.2.1.toNat (rx ((mCommas a0) ++ [(a0.size : Int)]) y1.2.2).toNat) ∧
                ((mTrim (a0.extract y1.2.1.toNat (rx ((mCommas a0) ++ [(a0.size : Int)]) y1.2.2).toNat)) ≠ (lit []) →
                  (y1.1.length + [(mTrim (a0.extract y1.2.1.toNat (rx ((mCommas a0) ++ [(a0.size : Int)]) y1.2.2).toNat))].length) * 16 ≤ 140737488355328 ∧
                  (L0 ((y1.1 ++ [(mTrim (a0.extract y1.2.1.toNat (rx ((mCommas a0) ++ [(a0.size : Int)]) y1.2.2).toNat))]), (IntKind.i64.wrap ((rx ((mCommas a0) ++ [(a0.size : Int)]) y1.2.2) + 1)), (IntKind.i64.wrap (y1.2.2 + 1))))) ∧
                (¬ ((mTrim (a0.extract y1.2.1.toNat (rx ((mCommas a0) ++ [(a0.size : Int)]) y1.2.2).toNat)) ≠ (lit [])) →
                  (L0 (y1.1, (IntKind.i64.wrap ((rx ((mCommas a0) ++ [(a0.size : Int)]) y1.2.2) + 1)), (IntKind.i64.wrap (y1.2.2 + 1)))))) ∧
              (¬ (y1.2.2 < (((mCommas a0) ++ [(a0.size : Int)]).length : Int)) →
                (Q y1.1))
            ) →
            (L0 y1)))
      ) →
      (L0 ([], 0, 0))))

def s_impl_Storable (a0 : Req) (a1 : Rsp) (Q : (Bool → Prop)) : Prop :=
  (a0.1 ≠ (lit [71, 69, 84]) →
    (Q false)) ∧
  (¬ (a0.1 ≠ (lit [71, 69, 84])) →
    pResponseOk a1 ∧
    (¬ ((mResponseOk a1) = true) →
      (Q false)) ∧
    (¬ (¬ ((mResponseOk a1) = true)) →
      (a1.1 = 304 →
        (Q false)) ∧
      (¬ (a1.1 = 304) →
        pCcHas a0.2.2.1 (lit [110, 111, 45, 115, 116, 111, 114, 101]) ∧
        ((mCcHas a0.2.2.1 (lit [110, 111, 45, 115, 116, 111, 114, 101])) = true →
          (Q false)) ∧
        (¬ ((mCcHas a0.2.2.1 (lit [110, 111, 45, 115, 116, 111, 114, 101])) = true) →
          pStorable_1 (lit [110, 111, 45, 115, 116, 111, 114, 101]) a1 ∧
          ((mStorable_1 (lit [110, 111, 45, 115, 116, 111, 114, 101]) a1) = true →
            (Q false)) ∧
          (¬ ((mStorable_1 (lit [110, 111, 45, 115, 116, 111, 114, 101]) a1) = true) →
            pStorable_1 (lit [112, 114, 105, 118, 97, 116, 101]) a1 ∧
            ((mStorable_1 (lit [112, 114, 105, 118, 97, 116, 101]) a1) = true →
              (Q false)) ∧
            (¬ ((mStorable_1 (lit [112, 114, 105, 118, 97, 116, 101]) a1) = true) →
              pFieldGet a1.2.1 (lit [118, 97, 114, 121]) ∧
              pSplitList (mFieldGet a1.2.1 (lit [118, 97, 114, 121])).1 ∧
              pContains_string (mSplitList (mFieldGet a1.2.1 (lit [118, 97, 114, 121])).1) (lit [42]) ∧
              ((mContains_string (mSplitList (mFieldGet a1.2.1 (lit [118, 97, 114, 121])).1) (lit [42])) = true →
                (Q false)) ∧
              (¬ ((mContains_string (mSplitList (mFieldGet a1.2.1 (lit [118, 97, 114, 121])).1) (lit [42])) = true) →
                pHasField a0.2.2.1 (lit [97, 117, 116, 104, 111, 114, 105, 122, 97, 116, 105, 111, 110]) ∧
                ((mHasField a0.2.2.1 (lit [97, 117, 116, 104, 111, 114, 105, 122, 97, 116, 105, 111, 110])) = true →
                  pStorable_1 (lit [112, 117, 98, 108, 105, 99]) a1 ∧
                  (¬ ((mStorable_1 (lit [112, 117, 98, 108, 105, 99]) a1) = true) →
                    pStorable_1 (lit [115, 45, 109, 97, 120, 97, 103, 101]) a1 ∧
                    (¬ ((mStorable_1 (lit [115, 45, 109, 97, 120, 97, 103, 101]) a1) = true) →
                      pStorable_1 (lit [109, 117, 115, 116, 45, 114, 101, 118, 97, 108, 105, 100, 97, 116, 101]) a1 ∧
                      (¬ ((mStorable_1 (lit [109, 117, 115, 116, 45, 114, 101, 118, 97, 108, 105, 100, 97, 116, 101]) a1) = true) →
                        (Q false)) ∧
                      (¬ (¬ ((mStorable_1 (lit [109, 117, 115, 116, 45, 114, 101, 118, 97, 108, 105, 100, 97, 116, 101]) a1) = true)) →
                        pStorable_1 (lit [112, 117, 98, 108, 105, 99]) a1 ∧
                        ((mStorable_1 (lit [112, 117, 98, 108, 105, 99]) a1) = true →
                          (Q true)) ∧
                        (¬ ((mStorable_1 (lit [112, 117, 98, 108, 105, 99]) a1) = true) →
                          pStorable_1 (lit [109, 97, 120, 45, 97, 103, 101]) a1 ∧
                          ((mStorable_1 (lit [109, 97, 120, 45, 97, 103, 101]) a1) = true →
                            (Q true)) ∧
                          (¬ ((mStorable_1 (lit [109, 97, 120, 45, 97, 103, 101]) a1) = true) →
                            pStorable_1 (lit [115, 45, 109, 97, 120, 97, 103, 101]) a1 ∧
                            ((mStorable_1 (lit [115, 45, 109, 97, 120, 97, 103, 101]) a1) = true →
                              (Q true)) ∧
                            (¬ ((mStorable_1 (lit [115, 45, 109, 97, 120, 97, 103, 101]) a1) = true) →
                              pHasField a1.2.1 (lit [101, 120, 112, 105, 114, 101, 115]) ∧
                              ((mHasField a1.2.1 (lit [101, 120, 112, 105, 114, 101, 115])) = true →
                                (Q true)) ∧
                              (¬ ((mHasField a1.2.1 (lit [101, 120, 112, 105, 114, 101, 115])) = true) →
                                pHeuristic a1.1 ∧
                                (Q (mHeuristic a1.1)))))))) ∧
                    (¬ (¬ ((mStorable_1 (lit [115, 45, 109, 97, 120, 97, 103, 101]) a1) = true)) →
                      pStorable_1 (lit [112, 117, 98, 108, 105, 99]) a1 ∧
                      ((mStorable_1 (lit [112, 117, 98, 108, 105, 99]) a1) = true →
                        (Q true)) ∧
                      (¬ ((mStorable_1 (lit [112, 117, 98, 108, 105, 99]) a1) = true) →
                        pStorable_1 (lit [109, 97, 120, 45, 97, 103, 101]) a1 ∧
                        ((mStorable_1 (lit [109, 97, 120, 45, 97, 103, 101]) a1) = true →
                          (Q true)) ∧
                        (¬ ((mStorable_1 (lit [109, 97, 120, 45, 97, 103, 101]) a1) = true) →
                          pStorable_1 (lit [115, 45, 109, 97, 120, 97, 103, 101]) a1 ∧
                          ((mStorable_1 (lit [115, 45, 109, 97, 120, 97, 103, 101]) a1) = true →
                            (Q true)) ∧
                          (¬ ((mStorable_1 (lit [115, 45, 109, 97, 120, 97, 103, 101]) a1) = true) →
                            pHasField a1.2.1 (lit [101, 120, 112, 105, 114, 101, 115]) ∧
                            ((mHasField a1.2.1 (lit [101, 120, 112, 105, 114, 101, 115])) = true →
                              (Q true)) ∧
                            (¬ ((mHasField a1.2.1 (lit [101, 120, 112, 105, 114, 101, 115])) = true) →
                              pHeuristic a1.1 ∧
                              (Q (mHeuristic a1.1)))))))) ∧
                  (¬ (¬ ((mStorable_1 (lit [112, 117, 98, 108, 105, 99]) a1) = true)) →
                    pStorable_1 (lit [112, 117, 98, 108, 105, 99]) a1 ∧
                    ((mStorable_1 (lit [112, 117, 98, 108, 105, 99]) a1) = true →
                      (Q true)) ∧
                    (¬ ((mStorable_1 (lit [112, 117, 98, 108, 105, 99]) a1) = true) →
                      pStorable_1 (lit [109, 97, 120, 45, 97, 103, 101]) a1 ∧
                      ((mStorable_1 (lit [109, 97, 120, 45, 97, 103, 101]) a1) = true →
                        (Q true)) ∧
                      (¬ ((mStorable_1 (lit [109, 97, 120, 45, 97, 103, 101]) a1) = true) →
                        pStorable_1 (lit [115, 45, 109, 97, 120, 97, 103, 101]) a1 ∧
                        ((mStorable_1 (lit [115, 45, 109, 97, 120, 97, 103, 101]) a1) = true →
                          (Q true)) ∧
                        (¬ ((mStorable_1 (lit [115, 45, 109, 97, 120, 97, 103, 101]) a1) = true) →
                          pHasField a1.2.1 (lit [101, 120, 112, 105, 114, 101, 115]) ∧
                          ((mHasField a1.2.1 (lit [101, 120, 112, 105, 114, 101, 115])) = true →
                            (Q true)) ∧
                          (¬ ((mHasField a1.2.1 (lit [101, 120, 112, 105, 114, 101, 115])) = true) →
                            pHeuristic a1.1 ∧
                            (Q (mHeuristic a1.1)))))))) ∧
                (¬ ((mHasField a0.2.2.1 (lit [97, 117, 116, 104, 111, 114, 105, 122, 97, 116, 105, 111, 110])) = true) →
                  pStorable_1 (lit [112, 117, 98, 108, 105, 99]) a1 ∧
                  ((mStorable_1 (lit [112, 117, 98, 108, 105, 99]) a1) = true →
                    (Q true)) ∧
                  (¬ ((mStorable_1 (lit [112, 117, 98, 108, 105, 99]) a1) = true) →
                    pStorable_1 (lit [109, 97, 120, 45, 97, 103, 101]) a1 ∧
                    ((mStorable_1 (lit [109, 97, 120, 45, 97, 103, 101]) a1) = true →
                      (Q true)) ∧
                    (¬ ((mStorable_1 (lit [109, 97, 120, 45, 97, 103, 101]) a1) = true) →
                      pStorable_1 (lit [115, 45, 109, 97, 120, 97, 103, 101]) a1 ∧
                      ((mStorable_1 (lit [115, 45, 109, 97, 120, 97, 103, 101]) a1) = true →
                        (Q true)) ∧
                      (¬ ((mStorable_1 (lit [115, 45, 109, 97, 120, 97, 103, 101]) a1) = true) →
                        pHasField a1.2.1 (lit [101, 120, 112, 105, 114, 101, 115]) ∧
                        ((mHasField a1.2.1 (lit [101, 120, 112, 105, 114, 101, 115])) = true →
                          (Q true)) ∧
                        (¬ ((mHasField a1.2.1 (lit [101, 120, 112, 105, 114, 101, 115])) = true) →
                          pHeuristic a1.1 ∧
                          (Q (mHeuristic a1.1))))))))))))))

def s_impl_Storable_1 (a0 : S) (a1 : Rsp) (Q : (Bool → Prop)) : Prop :=
  pCcHas a1.2.1 a0 ∧
  (Q (mCcHas a1.2.1 a0))

def s_impl_StoredOk (a0 : Sto) (Q : (Bool → Prop)) : Prop :=
  pUriOk a0.1 ∧
  ((mUriOk a0.1) = true →
    pResponseOk (a0.2.2.1, a0.2.2.2.1, a0.2.2.2.2.1) ∧
    ((mResponseOk (a0.2.2.1, a0.2.2.2.1, a0.2.2.2.2.1)) = true →
      pIn a0.2.2.2.2.2.1 0 2000000000 ∧
      ((mIn a0.2.2.2.2.2.1 0 2000000000) = true →
        pIn a0.2.2.2.2.2.2 a0.2.2.2.2.2.1 2000000000 ∧
        ((mIn a0.2.2.2.2.2.2 a0.2.2.2.2.2.1 2000000000) = true →
          (Q (decide ((a0.2.1.length : Int) ≤ 12)))) ∧
        (¬ ((mIn a0.2.2.2.2.2.2 a0.2.2.2.2.2.1 2000000000) = true) →
          (Q false))) ∧
      (¬ ((mIn a0.2.2.2.2.2.1 0 2000000000) = true) →
        (Q false))) ∧
    (¬ ((mResponseOk (a0.2.2.1, a0.2.2.2.1, a0.2.2.2.2.1)) = true) →
      (Q false))) ∧
  (¬ ((mUriOk a0.1) = true) →
    (Q false))

def s_impl_TagOf (a0 : Int) (Q : (S → Prop)) : Prop :=
  pIn a0 1 100000 ∧
  (¬ ((mIn a0 1 100000) = true) →
    (Q (lit []))) ∧
  (¬ (¬ ((mIn a0 1 100000) = true)) →
    pDec a0 ∧
    (lit [34, 118]).size + (mDec a0).size ≤ 9223372036854775807 ∧
    ((lit [34, 118]) ++ (mDec a0)).size + (lit [34]).size ≤ 9223372036854775807 ∧
    (Q (((lit [34, 118]) ++ (mDec a0)) ++ (lit [34]))))

def s_impl_Trim (a0 : S) (Q : (S → Prop)) : Prop :=
  pTrimL a0 (lit [32, 9]) ∧
  (Q (mTrimL a0 (lit [32, 9])))

def s_impl_UriOk (a0 : S) (Q : (Bool → Prop)) : Prop :=
  (∀ L0 : (Int → Prop),
    ((
        (∀ y1 : Int,
          ((
              (y1 < (a0.size : Int) →
                0 ≤ y1 ∧
                y1 < (a0.size : Int) ∧
                ((bt a0 y1) < 33 →
                  (Q false)) ∧
                (¬ ((bt a0 y1) < 33) →
                  0 ≤ y1 ∧
                  y1 < (a0.size : Int) ∧
                  (126 < (bt a0 y1) →
                    (Q false)) ∧
                  (¬ (126 < (bt a0 y1)) →
                    (L0 (IntKind.i64.wrap (y1 + 1)))))) ∧
              (¬ (y1 < (a0.size : Int)) →
                pIn (a0.size : Int) 1 20 ∧
                ((mIn (a0.size : Int) 1 20) = true →
                  (0 : Int) ≤ 0 ∧
                  0 < (a0.size : Int) ∧
                  (Q (decide ((bt a0 0) = 47)))) ∧
                (¬ ((mIn (a0.size : Int) 1 20) = true) →
                  (Q false)))
            ) →
            (L0 y1)))
      ) →
      (L0 0)))

def s_impl_VaryFits (a0 : Req) (a1 : Rsp) (a2 : (List Fld)) (Q : (Bool → Prop)) : Prop :=
  pPicked a0 a1 ∧
  pSameFields (mPicked a0 a1) a2 ∧
  (Q (mSameFields (mPicked a0 a1) a2))

def s_impl_VaryNames (a0 : Rsp) (Q : ((List S) → Prop)) : Prop :=
  pFieldGet a0.2.1 (lit [118, 97, 114, 121]) ∧
  pSplitList (mFieldGet a0.2.1 (lit [118, 97, 114, 121])).1 ∧
  (∀ L0 : (((List S) × Int) → Prop),
    ((
        (∀ y1 : ((List S) × Int),
          ((
              (y1.2 < ((mSplitList (mFieldGet a0.2.1 (lit [118, 97, 114, 121])).1).length : Int) →
                0 ≤ y1.2 ∧
                y1.2 < ((mSplitList (mFieldGet a0.2.1 (lit [118, 97, 114, 121])).1).length : Int) ∧
                pLower (rx (mSplitList (mFieldGet a0.2.1 (lit [118, 97, 114, 121])).1) y1.2) ∧
                pContains_string y1.1 (mLower (rx (mSplitList (mFieldGet a0.2.1 (lit [118, 97, 114, 121])).1) y1.2)) ∧
                (¬ ((mContains_string y1.1 (mLower (rx (mSplitList (mFieldGet a0.2.1 (lit [118, 97, 114, 121])).1) y1.2))) = true) →
                  (y1.1.length + [(mLower (rx (mSplitList (mFieldGet a0.2.1 (lit [118, 97, 114, 121])).1) y1.2))].length) * 16 ≤ 140737488355328 ∧
                  (L0 ((y1.1 ++ [(mLower (rx (mSplitList (mFieldGet a0.2.1 (lit [118, 97, 114, 121])).1) y1.2))]), (IntKind.i64.wrap (y1.2 + 1))))) ∧
                (¬ (¬ ((mContains_string y1.1 (mLower (rx (mSplitList (mFieldGet a0.2.1 (lit [118, 97, 114, 121])).1) y1.2))) = true)) →
                  (L0 (y1.1, (IntKind.i64.wrap (y1.2 + 1)))))) ∧
              (¬ (y1.2 < ((mSplitList (mFieldGet a0.2.1 (lit [118, 97, 114, 121])).1).length : Int)) →
                (Q y1.1))
            ) →
            (L0 y1)))
      ) →
      (L0 ([], 0))))

def s_impl_VersionIn (a0 : Rsp) (Q : (Int → Prop)) : Prop :=
  pFieldGet a0.2.1 (lit [101, 116, 97, 103]) ∧
  (((mFieldGet a0.2.1 (lit [101, 116, 97, 103])).1.size : Int) < 3 →
    (Q 0)) ∧
  (¬ (((mFieldGet a0.2.1 (lit [101, 116, 97, 103])).1.size : Int) < 3) →
    (0 : Int) ≤ 2 ∧
    2 ≤ (IntKind.i64.wrap (((mFieldGet a0.2.1 (lit [101, 116, 97, 103])).1.size : Int) - 1)) ∧
    (IntKind.i64.wrap (((mFieldGet a0.2.1 (lit [101, 116, 97, 103])).1.size : Int) - 1)) ≤ ((mFieldGet a0.2.1 (lit [101, 116, 97, 103])).1.size : Int) ∧
    pReadDec ((mFieldGet a0.2.1 (lit [101, 116, 97, 103])).1.extract ((2 : Int).toNat) (IntKind.i64.wrap (((mFieldGet a0.2.1 (lit [101, 116, 97, 103])).1.size : Int) - 1)).toNat) ∧
    (¬ ((mReadDec ((mFieldGet a0.2.1 (lit [101, 116, 97, 103])).1.extract ((2 : Int).toNat) (IntKind.i64.wrap (((mFieldGet a0.2.1 (lit [101, 116, 97, 103])).1.size : Int) - 1)).toNat)).2 = true) →
      (Q 0)) ∧
    (¬ (¬ ((mReadDec ((mFieldGet a0.2.1 (lit [101, 116, 97, 103])).1.extract ((2 : Int).toNat) (IntKind.i64.wrap (((mFieldGet a0.2.1 (lit [101, 116, 97, 103])).1.size : Int) - 1)).toNat)).2 = true)) →
      pTagOf (mReadDec ((mFieldGet a0.2.1 (lit [101, 116, 97, 103])).1.extract ((2 : Int).toNat) (IntKind.i64.wrap (((mFieldGet a0.2.1 (lit [101, 116, 97, 103])).1.size : Int) - 1)).toNat)).1 ∧
      ((mTagOf (mReadDec ((mFieldGet a0.2.1 (lit [101, 116, 97, 103])).1.extract ((2 : Int).toNat) (IntKind.i64.wrap (((mFieldGet a0.2.1 (lit [101, 116, 97, 103])).1.size : Int) - 1)).toNat)).1) ≠ (mFieldGet a0.2.1 (lit [101, 116, 97, 103])).1 →
        (Q 0)) ∧
      (¬ ((mTagOf (mReadDec ((mFieldGet a0.2.1 (lit [101, 116, 97, 103])).1.extract ((2 : Int).toNat) (IntKind.i64.wrap (((mFieldGet a0.2.1 (lit [101, 116, 97, 103])).1.size : Int) - 1)).toNat)).1) ≠ (mFieldGet a0.2.1 (lit [101, 116, 97, 103])).1) →
        (Q (mReadDec ((mFieldGet a0.2.1 (lit [101, 116, 97, 103])).1.extract ((2 : Int).toNat) (IntKind.i64.wrap (((mFieldGet a0.2.1 (lit [101, 116, 97, 103])).1.size : Int) - 1)).toNat)).1))))

def s_impl_bodies (a0 : (List Slt)) (Q : (Int → Prop)) : Prop :=
  (∀ L0 : ((Int × Int) → Prop),
    ((
        (∀ y1 : (Int × Int),
          ((
              (y1.2 < (a0.length : Int) →
                0 ≤ y1.2 ∧
                y1.2 < (a0.length : Int) ∧
                (L0 ((IntKind.i64.wrap (y1.1 + ((rx a0 y1.2).2.2.2.2.1.size : Int))), (IntKind.i64.wrap (y1.2 + 1))))) ∧
              (¬ (y1.2 < (a0.length : Int)) →
                (Q y1.1))
            ) →
            (L0 y1)))
      ) →
      (L0 (0, 0))))

def s_impl_bodiless (a0 : Int) (Q : (Bool → Prop)) : Prop :=
  (a0 = 204 →
    (Q true)) ∧
  (¬ (a0 = 204) →
    (Q (decide (a0 = 304))))

def s_impl_bodyFields (a0 : (List Fld)) (Q : (Bool → Prop)) : Prop :=
  pHasField a0 (lit [99, 111, 110, 116, 101, 110, 116, 45, 108, 101, 110, 103, 116, 104]) ∧
  ((mHasField a0 (lit [99, 111, 110, 116, 101, 110, 116, 45, 108, 101, 110, 103, 116, 104])) = true →
    (Q true)) ∧
  (¬ ((mHasField a0 (lit [99, 111, 110, 116, 101, 110, 116, 45, 108, 101, 110, 103, 116, 104])) = true) →
    pHasField a0 (lit [116, 114, 97, 110, 115, 102, 101, 114, 45, 101, 110, 99, 111, 100, 105, 110, 103]) ∧
    (Q (mHasField a0 (lit [116, 114, 97, 110, 115, 102, 101, 114, 45, 101, 110, 99, 111, 100, 105, 110, 103]))))

def s_impl_commas (a0 : S) (Q : ((List Int) → Prop)) : Prop :=
  (∀ L0 : (((List Int) × (Bool × Int)) → Prop),
    ((
        (∀ y1 : ((List Int) × (Bool × Int)),
          ((
              (y1.2.2 < (a0.size : Int) →
                0 ≤ y1.2.2 ∧
                y1.2.2 < (a0.size : Int) ∧
                ((bt a0 y1.2.2) = 34 →
                  (L0 (y1.1, (decide (¬ (y1.2.1 = true))), (IntKind.i64.wrap (y1.2.2 + 1))))) ∧
                (¬ ((bt a0 y1.2.2) = 34) →
                  (y1.2.1 = true →
                    0 ≤ y1.2.2 ∧
                    y1.2.2 < (a0.size : Int) ∧
                    ((bt a0 y1.2.2) = 92 →
                      (L0 (y1.1, y1.2.1, (IntKind.i64.wrap ((IntKind.i64.wrap (y1.2.2 + 1)) + 1))))) ∧
                    (¬ ((bt a0 y1.2.2) = 92) →
                      (¬ (y1.2.1 = true) →
                        0 ≤ y1.2.2 ∧
                        y1.2.2 < (a0.size : Int) ∧
                        ((bt a0 y1.2.2) = 44 →
                          (y1.1.length + [y1.2.2].length) * 8 ≤ 140737488355328 ∧
                          (L0 ((y1.1 ++ [y1.2.2]), y1.2.1, (IntKind.i64.wrap (y1.2.2 + 1))))) ∧
                        (¬ ((bt a0 y1.2.2) = 44) →
                          (L0 (y1.1, y1.2.1, (IntKind.i64.wrap (y1.2.2 + 1)))))) ∧
                      (¬ (¬ (y1.2.1 = true)) →
                        (L0 (y1.1, y1.2.1, (IntKind.i64.wrap (y1.2.2 + 1))))))) ∧
                  (¬ (y1.2.1 = true) →
                    (¬ (y1.2.1 = true) →
                      0 ≤ y1.2.2 ∧
                      y1.2.2 < (a0.size : Int) ∧
                      ((bt a0 y1.2.2) = 44 →
                        (y1.1.length + [y1.2.2].length) * 8 ≤ 140737488355328 ∧
                        (L0 ((y1.1 ++ [y1.2.2]), y1.2.1, (IntKind.i64.wrap (y1.2.2 + 1))))) ∧
                      (¬ ((bt a0 y1.2.2) = 44) →
                        (L0 (y1.1, y1.2.1, (IntKind.i64.wrap (y1.2.2 + 1)))))) ∧
                    (¬ (¬ (y1.2.1 = true)) →
                      (L0 (y1.1, y1.2.1, (IntKind.i64.wrap (y1.2.2 + 1)))))))) ∧
              (¬ (y1.2.2 < (a0.size : Int)) →
                (Q y1.1))
            ) →
            (L0 y1)))
      ) →
      (L0 ([], false, 0))))

def s_impl_fieldOk (a0 : Fld) (Q : (Bool → Prop)) : Prop :=
  pIsTokenText a0.1 ∧
  ((mIsTokenText a0.1) = true →
    ((a0.1.size : Int) ≤ 24 →
      pLower a0.1 ∧
      ((mLower a0.1) = a0.1 →
        pIsValueText a0.2 ∧
        ((mIsValueText a0.2) = true →
          (Q (decide ((a0.2.size : Int) ≤ 60)))) ∧
        (¬ ((mIsValueText a0.2) = true) →
          (Q false))) ∧
      (¬ ((mLower a0.1) = a0.1) →
        (Q false))) ∧
    (¬ ((a0.1.size : Int) ≤ 24) →
      (Q false))) ∧
  (¬ ((mIsTokenText a0.1) = true) →
    (Q false))

def s_impl_hasField (a0 : (List Fld)) (a1 : S) (Q : (Bool → Prop)) : Prop :=
  pFieldGet a0 a1 ∧
  (Q (mFieldGet a0 a1).2)

def s_impl_in (a0 : Int) (a1 : Int) (a2 : Int) (Q : (Bool → Prop)) : Prop :=
  (a1 ≤ a0 →
    (Q (decide (a0 ≤ a2)))) ∧
  (¬ (a1 ≤ a0) →
    (Q false))

def s_impl_isLetterOrDigit (a0 : Int) (Q : (Bool → Prop)) : Prop :=
  (97 ≤ a0 →
    (a0 ≤ 122 →
      (Q true)) ∧
    (¬ (a0 ≤ 122) →
      (65 ≤ a0 →
        (a0 ≤ 90 →
          (Q true)) ∧
        (¬ (a0 ≤ 90) →
          (48 ≤ a0 →
            (Q (decide (a0 ≤ 57)))) ∧
          (¬ (48 ≤ a0) →
            (Q false)))) ∧
      (¬ (65 ≤ a0) →
        (48 ≤ a0 →
          (Q (decide (a0 ≤ 57)))) ∧
        (¬ (48 ≤ a0) →
          (Q false))))) ∧
  (¬ (97 ≤ a0) →
    (65 ≤ a0 →
      (a0 ≤ 90 →
        (Q true)) ∧
      (¬ (a0 ≤ 90) →
        (48 ≤ a0 →
          (Q (decide (a0 ≤ 57)))) ∧
        (¬ (48 ≤ a0) →
          (Q false)))) ∧
    (¬ (65 ≤ a0) →
      (48 ≤ a0 →
        (Q (decide (a0 ≤ 57)))) ∧
      (¬ (48 ≤ a0) →
        (Q false))))

def s_impl_itsOwn (a0 : Req) (Q : (Bool → Prop)) : Prop :=
  (a0.1 ≠ (lit [71, 69, 84]) →
    (Q true)) ∧
  (¬ (a0.1 ≠ (lit [71, 69, 84])) →
    pHasField a0.2.2.1 (lit [97, 117, 116, 104, 111, 114, 105, 122, 97, 116, 105, 111, 110]) ∧
    ((mHasField a0.2.2.1 (lit [97, 117, 116, 104, 111, 114, 105, 122, 97, 116, 105, 111, 110])) = true →
      (Q true)) ∧
    (¬ ((mHasField a0.2.2.1 (lit [97, 117, 116, 104, 111, 114, 105, 122, 97, 116, 105, 111, 110])) = true) →
      pHasField a0.2.2.1 (lit [105, 102, 45, 110, 111, 110, 101, 45, 109, 97, 116, 99, 104]) ∧
      ((mHasField a0.2.2.1 (lit [105, 102, 45, 110, 111, 110, 101, 45, 109, 97, 116, 99, 104])) = true →
        (Q true)) ∧
      (¬ ((mHasField a0.2.2.1 (lit [105, 102, 45, 110, 111, 110, 101, 45, 109, 97, 116, 99, 104])) = true) →
        pHasField a0.2.2.1 (lit [105, 102, 45, 109, 111, 100, 105, 102, 105, 101, 100, 45, 115, 105, 110, 99, 101]) ∧
        ((mHasField a0.2.2.1 (lit [105, 102, 45, 109, 111, 100, 105, 102, 105, 101, 100, 45, 115, 105, 110, 99, 101])) = true →
          (Q true)) ∧
        (¬ ((mHasField a0.2.2.1 (lit [105, 102, 45, 109, 111, 100, 105, 102, 105, 101, 100, 45, 115, 105, 110, 99, 101])) = true) →
          pCcHas a0.2.2.1 (lit [110, 111, 45, 115, 116, 111, 114, 101]) ∧
          ((mCcHas a0.2.2.1 (lit [110, 111, 45, 115, 116, 111, 114, 101])) = true →
            (Q true)) ∧
          (¬ ((mCcHas a0.2.2.1 (lit [110, 111, 45, 115, 116, 111, 114, 101])) = true) →
            pCcHas a0.2.2.1 (lit [110, 111, 45, 99, 97, 99, 104, 101]) ∧
            (Q (mCcHas a0.2.2.1 (lit [110, 111, 45, 99, 97, 99, 104, 101]))))))))

def s_impl_ownFields (a0 : (List Fld)) (Q : (Bool → Prop)) : Prop :=
  pFieldsOk a0 ∧
  ((mFieldsOk a0) = true →
    ((a0.length : Int) < 12 →
      pBodyFields a0 ∧
      (Q (decide (¬ ((mBodyFields a0) = true))))) ∧
    (¬ ((a0.length : Int) < 12) →
      (Q false))) ∧
  (¬ ((mFieldsOk a0) = true) →
    (Q false))

def s_impl_shardSizes (a0 : Int) (a1 : Int) (Q : (Bool → Prop)) : Prop :=
  pIn a0 1 8 ∧
  ((mIn a0 1 8) = true →
    pIn a1 0 500 ∧
    (Q (mIn a1 0 500))) ∧
  (¬ ((mIn a0 1 8) = true) →
    (Q false))

def s_impl_standAlike (a0 : Sto) (a1 : Sto) (Q : (Bool → Prop)) : Prop :=
  (a0.1 = a1.1 →
    pSameFields a0.2.1 a1.2.1 ∧
    (Q (mSameFields a0.2.1 a1.2.1))) ∧
  (¬ (a0.1 = a1.1) →
    (Q false))

def s_laws_FnExactAllDone (a0 : (Int × (Int × ((List (Int × (S × (Int × (S × (S × ((List Fld) × (S × (S × (S × ((List Fld) × (S × (S × ((List Fld) × (Int × ((List Fld) × (S × (Int × (Int × (Bool × (Int × (Int × (Int × (Int × (Bool × (Int × ((List Fld) × (S × (List (Int × Rsp)))))))))))))))))))))))))))))) × ((List Shd) × ((List Gen) × ((List Flt) × ((List Rsc) × (List Evt))))))))) (Q : (Bool → Prop)) : Prop :=
  pSz a0 1048576 ∧
  ((szF a0 1048576) < 0 →
    (Q true)) ∧
  (¬ ((szF a0 1048576) < 0) →
    pTo a0 ∧
    pAllDone (toF a0) ∧
    pTo a0 ∧
    pAllDone (toF a0) ∧
    ((mAllDone (toF a0)) ≠ (mAllDone (toF a0)) →
      (Q false)) ∧
    (¬ ((mAllDone (toF a0)) ≠ (mAllDone (toF a0))) →
      pTo a0 ∧
      pEq (toF a0) (toF a0) ∧
      (¬ ((eqF (toF a0) (toF a0)) = true) →
        (Q false)) ∧
      (¬ (¬ ((eqF (toF a0) (toF a0)) = true)) →
        (Q true))))

def s_laws_FnExactBlocked (a0 : (Int × (Int × ((List (Int × (S × (Int × (S × (S × ((List Fld) × (S × (S × (S × ((List Fld) × (S × (S × ((List Fld) × (Int × ((List Fld) × (S × (Int × (Int × (Bool × (Int × (Int × (Int × (Int × (Bool × (Int × ((List Fld) × (S × (List (Int × Rsp)))))))))))))))))))))))))))))) × ((List Shd) × ((List Gen) × ((List Flt) × ((List Rsc) × (List Evt))))))))) (a1 : Int) (Q : (Bool → Prop)) : Prop :=
  pSz a0 1048576 ∧
  ((szF a0 1048576) < 0 →
    (Q true)) ∧
  (¬ ((szF a0 1048576) < 0) →
    pTo a0 ∧
    pBlocked (toF a0) a1 ∧
    pTo a0 ∧
    pBlocked (toF a0) a1 ∧
    ((mBlocked (toF a0) a1) ≠ (mBlocked (toF a0) a1) →
      (Q false)) ∧
    (¬ ((mBlocked (toF a0) a1) ≠ (mBlocked (toF a0) a1)) →
      pTo a0 ∧
      pEq (toF a0) (toF a0) ∧
      (¬ ((eqF (toF a0) (toF a0)) = true) →
        (Q false)) ∧
      (¬ (¬ ((eqF (toF a0) (toF a0)) = true)) →
        (Q true))))

def s_slices_Contains_string (a0 : (List S)) (a1 : S) (Q : (Bool → Prop)) : Prop :=
  pIndex_string a0 a1 ∧
  (Q (decide (0 ≤ (mIndex_string a0 a1))))

def s_slices_Equal_Field (a0 : (List Fld)) (a1 : (List Fld)) (Q : (Bool → Prop)) : Prop :=
  ((a0.length : Int) ≠ (a1.length : Int) →
    (Q false)) ∧
  (¬ ((a0.length : Int) ≠ (a1.length : Int)) →
    (∀ L0 : (Int → Prop),
      ((
          (∀ y1 : Int,
            ((
                (y1 < (a0.length : Int) →
                  0 ≤ y1 ∧
                  y1 < (a0.length : Int) ∧
                  0 ≤ y1 ∧
                  y1 < (a1.length : Int) ∧
                  (¬ ((rx a0 y1) = (rx a1 y1)) →
                    (Q false)) ∧
                  (¬ (¬ ((rx a0 y1) = (rx a1 y1))) →
                    (L0 (IntKind.i64.wrap (y1 + 1))))) ∧
                (¬ (y1 < (a0.length : Int)) →
                  (Q true))
              ) →
              (L0 y1)))
        ) →
        (L0 0))))

def s_slices_Index_string (a0 : (List S)) (a1 : S) (Q : (Int → Prop)) : Prop :=
  (∀ L0 : (Int → Prop),
    ((
        (∀ y1 : Int,
          ((
              (y1 < (a0.length : Int) →
                0 ≤ y1 ∧
                y1 < (a0.length : Int) ∧
                (a1 = (rx a0 y1) →
                  (Q y1)) ∧
                (¬ (a1 = (rx a0 y1)) →
                  (L0 (IntKind.i64.wrap (y1 + 1))))) ∧
              (¬ (y1 < (a0.length : Int)) →
                (Q (-1)))
            ) →
            (L0 y1)))
      ) →
      (L0 0)))

def s_spec_AllDone (a0 : (Int × (Int × ((List (Int × (S × (Int × (S × (S × ((List Fld) × (S × (S × (S × ((List Fld) × (S × (S × ((List Fld) × (Int × ((List Fld) × (S × (Int × (Int × (Bool × (Int × (Int × (Int × (Int × (Bool × (Int × ((List Fld) × (S × (List (Int × Rsp)))))))))))))))))))))))))))))) × ((List Shd) × ((List Gen) × ((List Flt) × ((List Rsc) × (List Evt))))))))) (Q : (Bool → Prop)) : Prop :=
  (∀ L0 : (Int → Prop),
    ((
        (∀ y1 : Int,
          ((
              (y1 < (a0.2.2.1.length : Int) →
                0 ≤ y1 ∧
                y1 < (a0.2.2.1.length : Int) ∧
                ((rx a0.2.2.1 y1).1 ≠ 7 →
                  (Q false)) ∧
                (¬ ((rx a0.2.2.1 y1).1 ≠ 7) →
                  (L0 (IntKind.i64.wrap (y1 + 1))))) ∧
              (¬ (y1 < (a0.2.2.1.length : Int)) →
                (Q true))
            ) →
            (L0 y1)))
      ) →
      (L0 0)))

def s_spec_Blocked (a0 : (Int × (Int × ((List (Int × (S × (Int × (S × (S × ((List Fld) × (S × (S × (S × ((List Fld) × (S × (S × ((List Fld) × (Int × ((List Fld) × (S × (Int × (Int × (Bool × (Int × (Int × (Int × (Int × (Bool × (Int × ((List Fld) × (S × (List (Int × Rsp)))))))))))))))))))))))))))))) × ((List Shd) × ((List Gen) × ((List Flt) × ((List Rsc) × (List Evt))))))))) (a1 : Int) (Q : (Bool → Prop)) : Prop :=
  pIn a1 0 (IntKind.i64.wrap ((a0.2.2.1.length : Int) - 1)) ∧
  (¬ ((mIn a1 0 (IntKind.i64.wrap ((a0.2.2.1.length : Int) - 1))) = true) →
    (Q true)) ∧
  (¬ (¬ ((mIn a1 0 (IntKind.i64.wrap ((a0.2.2.1.length : Int) - 1))) = true)) →
    0 ≤ a1 ∧
    a1 < (a0.2.2.1.length : Int) ∧
    ((rx a0.2.2.1 a1).1 = 7 →
      (Q true)) ∧
    (¬ ((rx a0.2.2.1 a1).1 = 7) →
      ((rx a0.2.2.1 a1).1 = 5 →
        pIn (rx a0.2.2.1 a1).2.2.2.2.2.2.2.2.2.2.2.2.2.2.2.2.2.2.2.1 0 (IntKind.i64.wrap ((a0.2.2.2.2.2.1.length : Int) - 1)) ∧
        ((mIn (rx a0.2.2.1 a1).2.2.2.2.2.2.2.2.2.2.2.2.2.2.2.2.2.2.2.1 0 (IntKind.i64.wrap ((a0.2.2.2.2.2.1.length : Int) - 1))) = true →
          0 ≤ (rx a0.2.2.1 a1).2.2.2.2.2.2.2.2.2.2.2.2.2.2.2.2.2.2.2.1 ∧
          (rx a0.2.2.1 a1).2.2.2.2.2.2.2.2.2.2.2.2.2.2.2.2.2.2.2.1 < (a0.2.2.2.2.2.1.length : Int) ∧
          (Q (rx a0.2.2.2.2.2.1 (rx a0.2.2.1 a1).2.2.2.2.2.2.2.2.2.2.2.2.2.2.2.2.2.2.2.1).2.1)) ∧
        (¬ ((mIn (rx a0.2.2.1 a1).2.2.2.2.2.2.2.2.2.2.2.2.2.2.2.2.2.2.2.1 0 (IntKind.i64.wrap ((a0.2.2.2.2.2.1.length : Int) - 1))) = true) →
          (Q false))) ∧
      (¬ ((rx a0.2.2.1 a1).1 = 5) →
        (Q false))))

def s_spec_CcHas (a0 : (List Fld)) (a1 : S) (Q : (Bool → Prop)) : Prop :=
  pDirectives a0 ∧
  (∀ L0 : (Int → Prop),
    ((
        (∀ y1 : Int,
          ((
              (y1 < ((mDirectives a0).length : Int) →
                0 ≤ y1 ∧
                y1 < ((mDirectives a0).length : Int) ∧
                ((rx (mDirectives a0) y1).1 = a1 →
                  (Q true)) ∧
                (¬ ((rx (mDirectives a0) y1).1 = a1) →
                  (L0 (IntKind.i64.wrap (y1 + 1))))) ∧
              (¬ (y1 < ((mDirectives a0).length : Int)) →
                (Q false))
            ) →
            (L0 y1)))
      ) →
      (L0 0)))

def s_spec_Dec (a0 : Int) (Q : (S → Prop)) : Prop :=
  (a0 = 0 →
    (Q (lit [48]))) ∧
  (¬ (a0 = 0) →
    (∀ L0 : ((Int × S) → Prop),
      ((
          (∀ y1 : (Int × S),
            ((
                (y1.1 ≠ 0 →
                  (10 : Int) ≠ 0 ∧
                  ((y1.1.tmod 10) < 0 →
                    (strOf [(IntKind.u8.wrap (IntKind.i64.wrap (48 + (IntKind.i64.wrap (0 - (y1.1.tmod 10))))))]).size + y1.2.size ≤ 9223372036854775807 ∧
                    (10 : Int) ≠ 0 ∧
                    (L0 ((IntKind.i64.wrap (y1.1.tdiv 10)), ((strOf [(IntKind.u8.wrap (IntKind.i64.wrap (48 + (IntKind.i64.wrap (0 - (y1.1.tmod 10))))))]) ++ y1.2)))) ∧
                  (¬ ((y1.1.tmod 10) < 0) →
                    (strOf [(IntKind.u8.wrap (IntKind.i64.wrap (48 + (y1.1.tmod 10))))]).size + y1.2.size ≤ 9223372036854775807 ∧
                    (10 : Int) ≠ 0 ∧
                    (L0 ((IntKind.i64.wrap (y1.1.tdiv 10)), ((strOf [(IntKind.u8.wrap (IntKind.i64.wrap (48 + (y1.1.tmod 10))))]) ++ y1.2))))) ∧
                (¬ (y1.1 ≠ 0) →
                  (a0 < 0 →
                    (lit [45]).size + y1.2.size ≤ 9223372036854775807 ∧
                    (Q ((lit [45]) ++ y1.2))) ∧
                  (¬ (a0 < 0) →
                    (Q y1.2)))
              ) →
              (L0 y1)))
        ) →
        (L0 (a0, (lit []))))))

def s_spec_Directives (a0 : (List Fld)) (Q : ((List Fld) → Prop)) : Prop :=
  pFieldGet a0 (lit [99, 97, 99, 104, 101, 45, 99, 111, 110, 116, 114, 111, 108]) ∧
  pSplitList (mFieldGet a0 (lit [99, 97, 99, 104, 101, 45, 99, 111, 110, 116, 114, 111, 108])).1 ∧
  (∀ L0 : (((List Fld) × Int) → Prop),
    ((
        (∀ y1 : ((List Fld) × Int),
          ((
              (y1.2 < ((mSplitList (mFieldGet a0 (lit [99, 97, 99, 104, 101, 45, 99, 111, 110, 116, 114, 111, 108])).1).length : Int) →
                0 ≤ y1.2 ∧
                y1.2 < ((mSplitList (mFieldGet a0 (lit [99, 97, 99, 104, 101, 45, 99, 111, 110, 116, 114, 111, 108])).1).length : Int) ∧
                (∀ L2 : (Int → Prop),
                  ((
                      (∀ y3 : Int,
                        ((
                            (y3 < ((rx (mSplitList (mFieldGet a0 (lit [99, 97, 99, 104, 101, 45, 99, 111, 110, 116, 114, 111, 108])).1) y1.2).size : Int) →
                              0 ≤ y3 ∧
                              y3 < ((rx (mSplitList (mFieldGet a0 (lit [99, 97, 99, 104, 101, 45, 99, 111, 110, 116, 114, 111, 108])).1) y1.2).size : Int) ∧
                              ((bt (rx (mSplitList (mFieldGet a0 (lit [99, 97, 99, 104, 101, 45, 99, 111, 110, 116, 114, 111, 108])).1) y1.2) y3) ≠ 61 →
                                (L2 (IntKind.i64.wrap (y3 + 1)))) ∧
                              (¬ ((bt (rx (mSplitList (mFieldGet a0 (lit [99, 97, 99, 104, 101, 45, 99, 111, 110, 116, 114, 111, 108])).1) y1.2) y3) ≠ 61) →
                                0 ≤ y3 ∧
                                y3 ≤ ((rx (mSplitList (mFieldGet a0 (lit [99, 97, 99, 104, 101, 45, 99, 111, 110, 116, 114, 111, 108])).1) y1.2).size : Int) ∧
                                pIsTokenText ((rx (mSplitList (mFieldGet a0 (lit [99, 97, 99, 104, 101, 45, 99, 111, 110, 116, 114, 111, 108])).1) y1.2).extract 0 y3.toNat) ∧
                                (¬ ((mIsTokenText ((rx (mSplitList (mFieldGet a0 (lit [99, 97, 99, 104, 101, 45, 99, 111, 110, 116, 114, 111, 108])).1) y1.2).extract 0 y3.toNat)) = true) →
                                  (L0 (y1.1, (IntKind.i64.wrap (y1.2 + 1))))) ∧
                                (¬ (¬ ((mIsTokenText ((rx (mSplitList (mFieldGet a0 (lit [99, 97, 99, 104, 101, 45, 99, 111, 110, 116, 114, 111, 108])).1) y1.2).extract 0 y3.toNat)) = true)) →
                                  0 ≤ y3 ∧
                                  y3 ≤ ((rx (mSplitList (mFieldGet a0 (lit [99, 97, 99, 104, 101, 45, 99, 111, 110, 116, 114, 111, 108])).1) y1.2).size : Int) ∧
                                  pLower ((rx (mSplitList (mFieldGet a0 (lit [99, 97, 99, 104, 101, 45, 99, 111, 110, 116, 114, 111, 108])).1) y1.2).extract 0 y3.toNat) ∧
                                  (y3 < ((rx (mSplitList (mFieldGet a0 (lit [99, 97, 99, 104, 101, 45, 99, 111, 110, 116, 114, 111, 108])).1) y1.2).size : Int) →
                                    0 ≤ (IntKind.i64.wrap (y3 + 1)) ∧
                                    (IntKind.i64.wrap (y3 + 1)) ≤ ((rx (mSplitList (mFieldGet a0 (lit [99, 97, 99, 104, 101, 45, 99, 111, 110, 116, 114, 111, 108])).1) y1.2).size : Int) ∧
                                    pL7Unquote ((rx (mSplitList (mFieldGet a0 (lit [99, 97, 99, 104, 101, 45, 99, 111, 110, 116, 114, 111, 108])).1) y1.2).extract (IntKind.i64.wrap (y3 + 1)).toNat (rx (mSplitList (mFieldGet a0 (lit [99, 97, 99, 104, 101, 45, 99, 111, 110, 116, 114, 111, 108])).1) y1.2).size) ∧
                                    (y1.1.length + [((mLower ((rx (mSplitList (mFieldGet a0 (lit [99, 97, 99, 104, 101, 45, 99, 111, 110, 116, 114, 111, 108])).1) y1.2).extract 0 y3.toNat)), (mL7Unquote ((rx (mSplitList (mFieldGet a0 (lit [99, 97, 99, 104, 101, 45, 99, 111, 110, 116, 114, 111, 108])).1) y1.2).extract (IntKind.i64.wrap (y3 + 1)).toNat (rx (mSplitList (mFieldGet a0 (lit [99, 97, 99, 104, 101, 45, 99, 111, 110, 116, 114, 111, 108])).1) y1.2).size)))].length) * 32 ≤ 140737488355328 ∧
                                    (L0 ((y1.1 ++ [((mLower ((rx (mSplitList (mFieldGet a0 (lit [99, 97, 99, 104, 101, 45, 99, 111, 110, 116, 114, 111, 108])).1) y1.2).extract 0 y3.toNat)), (mL7Unquote ((rx (mSplitList (mFieldGet a0 (lit [99, 97, 99, 104, 101, 45, 99, 111, 110, 116, 114, 111, 108])).1) y1.2).extract (IntKind.i64.wrap (y3 + 1)).toNat (rx (mSplitList (mFieldGet a0 (lit [99, 97, 99, 104, 101, 45, 99, 111, 110, 116, 114, 111, 108])).1) y1.2).size)))]), (IntKind.i64.wrap (y1.2 + 1))))) ∧
                                  (¬ (y3 < ((rx (mSplitList (mFieldGet a0 (lit [99, 97, 99, 104, 101, 45, 99, 111, 110, 116, 114, 111, 108])).1) y1.2).size : Int)) →
                                    (y1.1.length + [((mLower ((rx (mSplitList (mFieldGet a0 (lit [99, 97, 99, 104, 101, 45, 99, 111, 110, 116, 114, 111, 108])).1) y1.2).extract 0 y3.toNat)), (lit []))].length) * 32 ≤ 140737488355328 ∧
                                    (L0 ((y1.1 ++ [((mLower ((rx (mSplitList (mFieldGet a0 (lit [99, 97, 99, 104, 101, 45, 99, 111, 110, 116, 114, 111, 108])).1) y1.2).extract 0 y3.toNat)), (lit []))]), (IntKind.i64.wrap (y1.2 + 1)))))))) ∧
                            (¬ (y3 < ((rx (mSplitList (mFieldGet a0 (lit [99, 97, 99, 104, 101, 45, 99, 111, 110, 116, 114, 111, 108])).1) y1.2).size : Int)) →
                              0 ≤ y3 ∧
                              y3 ≤ ((rx (mSplitList (mFieldGet a0 (lit [99, 97, 99, 104, 101, 45, 99, 111, 110, 116, 114, 111, 108])).1) y1.2).size : Int) ∧
                              pIsTokenText ((rx (mSplitList (mFieldGet a0 (lit [99, 97, 99, 104, 101, 45, 99, 111, 110, 116, 114, 111, 108])).1) y1.2).extract 0 y3.toNat) ∧
                              (¬ ((mIsTokenText ((rx (mSplitList (mFieldGet a0 (lit [99, 97, 99, 104, 101, 45, 99, 111, 110, 116, 114, 111, 108])).1) y1.2).extract 0 y3.toNat)) = true) →
                                (L0 (y1.1, (IntKind.i64.wrap (y1.2 + 1))))) ∧
                              (¬ (¬ ((mIsTokenText ((rx (mSplitList (mFieldGet a0 (lit [99, 97, 99, 104, 101, 45, 99, 111, 110, 116, 114, 111, 108])).1) y1.2).extract 0 y3.toNat)) = true)) →
                                0 ≤ y3 ∧
                                y3 ≤ ((rx (mSplitList (mFieldGet a0 (lit [99, 97, 99, 104, 101, 45, 99, 111, 110, 116, 114, 111, 108])).1) y1.2).size : Int) ∧
                                pLower ((rx (mSplitList (mFieldGet a0 (lit [99, 97, 99, 104, 101, 45, 99, 111, 110, 116, 114, 111, 108])).1) y1.2).extract 0 y3.toNat) ∧
                                (y3 < ((rx (mSplitList (mFieldGet a0 (lit [99, 97, 99, 104, 101, 45, 99, 111, 110, 116, 114, 111, 108])).1) y1.2).size : Int) →
                                  0 ≤ (IntKind.i64.wrap (y3 + 1)) ∧
                                  (IntKind.i64.wrap (y3 + 1)) ≤ ((rx (mSplitList (mFieldGet a0 (lit [99, 97, 99, 104, 101, 45, 99, 111, 110, 116, 114, 111, 108])).1) y1.2).size : Int) ∧
                                  pL7Unquote ((rx (mSplitList (mFieldGet a0 (lit [99, 97, 99, 104, 101, 45, 99, 111, 110, 116, 114, 111, 108])).1) y1.2).extract (IntKind.i64.wrap (y3 + 1)).toNat (rx (mSplitList (mFieldGet a0 (lit [99, 97, 99, 104, 101, 45, 99, 111, 110, 116, 114, 111, 108])).1) y1.2).size) ∧
                                  (y1.1.length + [((mLower ((rx (mSplitList (mFieldGet a0 (lit [99, 97, 99, 104, 101, 45, 99, 111, 110, 116, 114, 111, 108])).1) y1.2).extract 0 y3.toNat)), (mL7Unquote ((rx (mSplitList (mFieldGet a0 (lit [99, 97, 99, 104, 101, 45, 99, 111, 110, 116, 114, 111, 108])).1) y1.2).extract (IntKind.i64.wrap (y3 + 1)).toNat (rx (mSplitList (mFieldGet a0 (lit [99, 97, 99, 104, 101, 45, 99, 111, 110, 116, 114, 111, 108])).1) y1.2).size)))].length) * 32 ≤ 140737488355328 ∧
                                  (L0 ((y1.1 ++ [((mLower ((rx (mSplitList (mFieldGet a0 (lit [99, 97, 99, 104, 101, 45, 99, 111, 110, 116, 114, 111, 108])).1) y1.2).extract 0 y3.toNat)), (mL7Unquote ((rx (mSplitList (mFieldGet a0 (lit [99, 97, 99, 104, 101, 45, 99, 111, 110, 116, 114, 111, 108])).1) y1.2).extract (IntKind.i64.wrap (y3 + 1)).toNat (rx (mSplitList (mFieldGet a0 (lit [99, 97, 99, 104, 101, 45, 99, 111, 110, 116, 114, 111, 108])).1) y1.2).size)))]), (IntKind.i64.wrap (y1.2 + 1))))) ∧
                                (¬ (y3 < ((rx (mSplitList (mFieldGet a0 (lit [99, 97, 99, 104, 101, 45, 99, 111, 110, 116, 114, 111, 108])).1) y1.2).size : Int)) →
                                  (y1.1.length + [((mLower ((rx (mSplitList (mFieldGet a0 (lit [99, 97, 99, 104, 101, 45, 99, 111, 110, 116, 114, 111, 108])).1) y1.2).extract 0 y3.toNat)), (lit []))].length) * 32 ≤ 140737488355328 ∧
                                  (L0 ((y1.1 ++ [((mLower ((rx (mSplitList (mFieldGet a0 (lit [99, 97, 99, 104, 101, 45, 99, 111, 110, 116, 114, 111, 108])).1) y1.2).extract 0 y3.toNat)), (lit []))]), (IntKind.i64.wrap (y1.2 + 1)))))))
                          ) →
                          (L2 y3)))
                    ) →
                    (L2 0)))) ∧
              (¬ (y1.2 < ((mSplitList (mFieldGet a0 (lit [99, 97, 99, 104, 101, 45, 99, 111, 110, 116, 114, 111, 108])).1).length : Int)) →
                (Q y1.1))
            ) →
            (L0 y1)))
      ) →
      (L0 ([], 0))))

def s_spec_FieldGet (a0 : (List Fld)) (a1 : S) (Q : ((S × Bool) → Prop)) : Prop :=
  (∀ L0 : ((S × (Bool × Int)) → Prop),
    ((
        (∀ y1 : (S × (Bool × Int)),
          ((
              (y1.2.2 < (a0.length : Int) →
                0 ≤ y1.2.2 ∧
                y1.2.2 < (a0.length : Int) ∧
                ((rx a0 y1.2.2).1 ≠ a1 →
                  (L0 (y1.1, y1.2.1, (IntKind.i64.wrap (y1.2.2 + 1))))) ∧
                (¬ ((rx a0 y1.2.2).1 ≠ a1) →
                  (y1.2.1 = true →
                    y1.1.size + (lit [44, 32]).size ≤ 9223372036854775807 ∧
                    0 ≤ y1.2.2 ∧
                    y1.2.2 < (a0.length : Int) ∧
                    (y1.1 ++ (lit [44, 32])).size + (rx a0 y1.2.2).2.size ≤ 9223372036854775807 ∧
                    (L0 (((y1.1 ++ (lit [44, 32])) ++ (rx a0 y1.2.2).2), true, (IntKind.i64.wrap (y1.2.2 + 1))))) ∧
                  (¬ (y1.2.1 = true) →
                    0 ≤ y1.2.2 ∧
                    y1.2.2 < (a0.length : Int) ∧
                    y1.1.size + (rx a0 y1.2.2).2.size ≤ 9223372036854775807 ∧
                    (L0 ((y1.1 ++ (rx a0 y1.2.2).2), true, (IntKind.i64.wrap (y1.2.2 + 1))))))) ∧
              (¬ (y1.2.2 < (a0.length : Int)) →
                (Q (y1.1, y1.2.1)))
            ) →
            (L0 y1)))
      ) →
      (L0 ((lit []), false, 0))))

def s_spec_FieldsOk (a0 : (List Fld)) (Q : (Bool → Prop)) : Prop :=
  (∀ L0 : (Int → Prop),
    ((
        (∀ y1 : Int,
          ((
              (y1 < (a0.length : Int) →
                0 ≤ y1 ∧
                y1 < (a0.length : Int) ∧
                pFieldOk (rx a0 y1) ∧
                (¬ ((mFieldOk (rx a0 y1)) = true) →
                  (Q false)) ∧
                (¬ (¬ ((mFieldOk (rx a0 y1)) = true)) →
                  (L0 (IntKind.i64.wrap (y1 + 1))))) ∧
              (¬ (y1 < (a0.length : Int)) →
                (Q (decide ((a0.length : Int) ≤ 12))))
            ) →
            (L0 y1)))
      ) →
      (L0 0)))

def s_spec_Filled (a0 : Shd) (Q : (Int → Prop)) : Prop :=
  pShardOk a0 ∧
  (¬ ((mShardOk a0) = true) →
    (Q 0)) ∧
  (¬ (¬ ((mShardOk a0) = true)) →
    pFilledS a0 ∧
    (Q (mFilledS a0)))

def s_spec_Heuristic (a0 : Int) (Q : (Bool → Prop)) : Prop :=
  pL4Has [200, 203, 204, 300, 301, 404, 410] a0 ∧
  (Q (mL4Has [200, 203, 204, 300, 301, 404, 410] a0))

def s_spec_IsTokenText (a0 : S) (Q : (Bool → Prop)) : Prop :=
  (∀ L0 : (Int → Prop),
    ((
        (∀ y1 : Int,
          ((
              (y1 < (a0.size : Int) →
                0 ≤ y1 ∧
                y1 < (a0.size : Int) ∧
                pToken (bt a0 y1) ∧
                (¬ ((mToken (bt a0 y1)) = true) →
                  (Q false)) ∧
                (¬ (¬ ((mToken (bt a0 y1)) = true)) →
                  (L0 (IntKind.i64.wrap (y1 + 1))))) ∧
              (¬ (y1 < (a0.size : Int)) →
                (Q (decide (0 < (a0.size : Int)))))
            ) →
            (L0 y1)))
      ) →
      (L0 0)))

def s_spec_IsValueText (a0 : S) (Q : (Bool → Prop)) : Prop :=
  (∀ L0 : (Int → Prop),
    ((
        (∀ y1 : Int,
          ((
              (y1 < (a0.size : Int) →
                0 ≤ y1 ∧
                y1 < (a0.size : Int) ∧
                ((bt a0 y1) ≠ 9 →
                  0 ≤ y1 ∧
                  y1 < (a0.size : Int) ∧
                  ((bt a0 y1) < 32 →
                    (Q false)) ∧
                  (¬ ((bt a0 y1) < 32) →
                    0 ≤ y1 ∧
                    y1 < (a0.size : Int) ∧
                    ((bt a0 y1) = 127 →
                      (Q false)) ∧
                    (¬ ((bt a0 y1) = 127) →
                      (L0 (IntKind.i64.wrap (y1 + 1)))))) ∧
                (¬ ((bt a0 y1) ≠ 9) →
                  (L0 (IntKind.i64.wrap (y1 + 1))))) ∧
              (¬ (y1 < (a0.size : Int)) →
                pTrim a0 ∧
                (Q (decide ((mTrim a0) = a0))))
            ) →
            (L0 y1)))
      ) →
      (L0 0)))

def s_spec_Lower (a0 : S) (Q : (S → Prop)) : Prop :=
  a0.size ≤ 140737488355328 ∧
  (∀ L0 : ((Int × (List Int)) → Prop),
    ((
        (∀ y1 : (Int × (List Int)),
          ((
              (y1.1 < (y1.2.length : Int) →
                0 ≤ y1.1 ∧
                y1.1 < (y1.2.length : Int) ∧
                (65 ≤ (rx y1.2 y1.1) →
                  0 ≤ y1.1 ∧
                  y1.1 < (y1.2.length : Int) ∧
                  ((rx y1.2 y1.1) ≤ 90 →
                    0 ≤ y1.1 ∧
                    y1.1 < (y1.2.length : Int) ∧
                    0 ≤ y1.1 ∧
                    y1.1 < (y1.2.length : Int) ∧
                    (L0 ((IntKind.i64.wrap (y1.1 + 1)), (y1.2.set y1.1.toNat (IntKind.u8.wrap ((rx y1.2 y1.1) + 32)))))) ∧
                  (¬ ((rx y1.2 y1.1) ≤ 90) →
                    (L0 ((IntKind.i64.wrap (y1.1 + 1)), y1.2)))) ∧
                (¬ (65 ≤ (rx y1.2 y1.1)) →
                  (L0 ((IntKind.i64.wrap (y1.1 + 1)), y1.2)))) ∧
              (¬ (y1.1 < (y1.2.length : Int)) →
                (Q (strOf y1.2)))
            ) →
            (L0 y1)))
      ) →
      (L0 (0, (bytesOf a0)))))

def s_spec_MayShare (a0 : Req) (a1 : Flt) (a2 : Int) (Q : (Bool → Prop)) : Prop :=
  (¬ (a1.2.1 = true) →
    (a1.2.2.2.1 = true →
      (a1.2.2.2.2.1 = true →
        pPicked (a1.2.2.2.2.2.1, a1.2.2.2.2.2.2.1, a1.2.2.2.2.2.2.2.1, a1.2.2.2.2.2.2.2.2.1) (a1.2.2.2.2.2.2.2.2.2.1, a1.2.2.2.2.2.2.2.2.2.2.1, a1.2.2.2.2.2.2.2.2.2.2.2.1) ∧
        pVaryFits a0 (a1.2.2.2.2.2.2.2.2.2.1, a1.2.2.2.2.2.2.2.2.2.2.1, a1.2.2.2.2.2.2.2.2.2.2.2.1) (mPicked (a1.2.2.2.2.2.1, a1.2.2.2.2.2.2.1, a1.2.2.2.2.2.2.2.1, a1.2.2.2.2.2.2.2.2.1) (a1.2.2.2.2.2.2.2.2.2.1, a1.2.2.2.2.2.2.2.2.2.2.1, a1.2.2.2.2.2.2.2.2.2.2.2.1)) ∧
        ((mVaryFits a0 (a1.2.2.2.2.2.2.2.2.2.1, a1.2.2.2.2.2.2.2.2.2.2.1, a1.2.2.2.2.2.2.2.2.2.2.2.1) (mPicked (a1.2.2.2.2.2.1, a1.2.2.2.2.2.2.1, a1.2.2.2.2.2.2.2.1, a1.2.2.2.2.2.2.2.2.1) (a1.2.2.2.2.2.2.2.2.2.1, a1.2.2.2.2.2.2.2.2.2.2.1, a1.2.2.2.2.2.2.2.2.2.2.2.1))) = true →
          pItsOwn a0 ∧
          (Q (decide (¬ ((mItsOwn a0) = true))))) ∧
        (¬ ((mVaryFits a0 (a1.2.2.2.2.2.2.2.2.2.1, a1.2.2.2.2.2.2.2.2.2.2.1, a1.2.2.2.2.2.2.2.2.2.2.2.1) (mPicked (a1.2.2.2.2.2.1, a1.2.2.2.2.2.2.1, a1.2.2.2.2.2.2.2.1, a1.2.2.2.2.2.2.2.2.1) (a1.2.2.2.2.2.2.2.2.2.1, a1.2.2.2.2.2.2.2.2.2.2.1, a1.2.2.2.2.2.2.2.2.2.2.2.1))) = true) →
          (Q false))) ∧
      (¬ (a1.2.2.2.2.1 = true) →
        (Q false))) ∧
    (¬ (a1.2.2.2.1 = true) →
      (Q false))) ∧
  (¬ (¬ (a1.2.1 = true)) →
    (Q false))

def s_spec_Normal (a0 : S) (Q : (S → Prop)) : Prop :=
  pSplitList a0 ∧
  (∀ L0 : (Gen → Prop),
    ((
        (∀ y1 : Gen,
          ((
              (y1.2 < ((mSplitList a0).length : Int) →
                (0 < y1.2 →
                  y1.1.size + (lit [44, 32]).size ≤ 9223372036854775807 ∧
                  0 ≤ y1.2 ∧
                  y1.2 < ((mSplitList a0).length : Int) ∧
                  (y1.1 ++ (lit [44, 32])).size + (rx (mSplitList a0) y1.2).size ≤ 9223372036854775807 ∧
                  (L0 (((y1.1 ++ (lit [44, 32])) ++ (rx (mSplitList a0) y1.2)), (IntKind.i64.wrap (y1.2 + 1))))) ∧
                (¬ (0 < y1.2) →
                  0 ≤ y1.2 ∧
                  y1.2 < ((mSplitList a0).length : Int) ∧
                  y1.1.size + (rx (mSplitList a0) y1.2).size ≤ 9223372036854775807 ∧
                  (L0 ((y1.1 ++ (rx (mSplitList a0) y1.2)), (IntKind.i64.wrap (y1.2 + 1)))))) ∧
              (¬ (y1.2 < ((mSplitList a0).length : Int)) →
                (Q y1.1))
            ) →
            (L0 y1)))
      ) →
      (L0 ((lit []), 0))))

def s_spec_OnlyStored (a0 : Req) (Q : (Bool → Prop)) : Prop :=
  pCcHas a0.2.2.1 (lit [111, 110, 108, 121, 45, 105, 102, 45, 99, 97, 99, 104, 101, 100]) ∧
  (Q (mCcHas a0.2.2.1 (lit [111, 110, 108, 121, 45, 105, 102, 45, 99, 97, 99, 104, 101, 100])))

def s_spec_OriginOk (a0 : (List Rsc)) (Q : (Bool → Prop)) : Prop :=
  (∀ L0 : (Int → Prop),
    ((
        (∀ y1 : Int,
          ((
              (y1 < (a0.length : Int) →
                0 ≤ y1 ∧
                y1 < (a0.length : Int) ∧
                pUriOk (rx a0 y1).1 ∧
                (¬ ((mUriOk (rx a0 y1).1) = true) →
                  (Q false)) ∧
                (¬ (¬ ((mUriOk (rx a0 y1).1) = true)) →
                  (60 < ((rx a0 y1).2.1.size : Int) →
                    (Q false)) ∧
                  (¬ (60 < ((rx a0 y1).2.1.size : Int)) →
                    pIn (rx a0 y1).2.2.1 1 100000 ∧
                    (¬ ((mIn (rx a0 y1).2.2.1 1 100000) = true) →
                      (Q false)) ∧
                    (¬ (¬ ((mIn (rx a0 y1).2.2.1 1 100000) = true)) →
                      pIn (rx a0 y1).2.2.2.1 0 2000000000 ∧
                      (¬ ((mIn (rx a0 y1).2.2.2.1 0 2000000000) = true) →
                        (Q false)) ∧
                      (¬ (¬ ((mIn (rx a0 y1).2.2.2.1 0 2000000000) = true)) →
                        pOwnFields (rx a0 y1).2.2.2.2.2.2 ∧
                        (¬ ((mOwnFields (rx a0 y1).2.2.2.2.2.2) = true) →
                          (Q false)) ∧
                        (¬ (¬ ((mOwnFields (rx a0 y1).2.2.2.2.2.2) = true)) →
                          (6 < ((rx a0 y1).2.2.2.2.2.2.length : Int) →
                            (Q false)) ∧
                          (¬ (6 < ((rx a0 y1).2.2.2.2.2.2.length : Int)) →
                            (0 < y1 →
                              0 ≤ (IntKind.i64.wrap (y1 - 1)) ∧
                              (IntKind.i64.wrap (y1 - 1)) < (a0.length : Int) ∧
                              ((strLt (rx a0 y1).1 (rx a0 (IntKind.i64.wrap (y1 - 1))).1 ∨ (rx a0 y1).1 = (rx a0 (IntKind.i64.wrap (y1 - 1))).1) →
                                (Q false)) ∧
                              (¬ ((strLt (rx a0 y1).1 (rx a0 (IntKind.i64.wrap (y1 - 1))).1 ∨ (rx a0 y1).1 = (rx a0 (IntKind.i64.wrap (y1 - 1))).1)) →
                                (L0 (IntKind.i64.wrap (y1 + 1))))) ∧
                            (¬ (0 < y1) →
                              (L0 (IntKind.i64.wrap (y1 + 1))))))))))) ∧
              (¬ (y1 < (a0.length : Int)) →
                (Q (decide ((a0.length : Int) ≤ 8))))
            ) →
            (L0 y1)))
      ) →
      (L0 0)))

def s_spec_Picked (a0 : Req) (a1 : Rsp) (Q : ((List Fld) → Prop)) : Prop :=
  pVaryNames a1 ∧
  (∀ L0 : (((List Fld) × Int) → Prop),
    ((
        (∀ y1 : ((List Fld) × Int),
          ((
              (y1.2 < ((mVaryNames a1).length : Int) →
                0 ≤ y1.2 ∧
                y1.2 < ((mVaryNames a1).length : Int) ∧
                pFieldGet a0.2.2.1 (rx (mVaryNames a1) y1.2) ∧
                ((mFieldGet a0.2.2.1 (rx (mVaryNames a1) y1.2)).2 = true →
                  0 ≤ y1.2 ∧
                  y1.2 < ((mVaryNames a1).length : Int) ∧
                  pNormal (mFieldGet a0.2.2.1 (rx (mVaryNames a1) y1.2)).1 ∧
                  (y1.1.length + [((rx (mVaryNames a1) y1.2), (mNormal (mFieldGet a0.2.2.1 (rx (mVaryNames a1) y1.2)).1))].length) * 32 ≤ 140737488355328 ∧
                  (L0 ((y1.1 ++ [((rx (mVaryNames a1) y1.2), (mNormal (mFieldGet a0.2.2.1 (rx (mVaryNames a1) y1.2)).1))]), (IntKind.i64.wrap (y1.2 + 1))))) ∧
                (¬ ((mFieldGet a0.2.2.1 (rx (mVaryNames a1) y1.2)).2 = true) →
                  (L0 (y1.1, (IntKind.i64.wrap (y1.2 + 1)))))) ∧
              (¬ (y1.2 < ((mVaryNames a1).length : Int)) →
                (Q y1.1))
            ) →
            (L0 y1)))
      ) →
      (L0 ([], 0))))

def s_spec_ReadDec (a0 : S) (Q : ((Int × Bool) → Prop)) : Prop :=
  (∀ L0 : ((Int × (Int × Int)) → Prop),
    ((
        (∀ y1 : (Int × (Int × Int)),
          ((
              (y1.2.2 < (a0.size : Int) →
                (y1.2.2 < 11 →
                  0 ≤ y1.2.2 ∧
                  y1.2.2 < (a0.size : Int) ∧
                  (48 ≤ (bt a0 y1.2.2) →
                    0 ≤ y1.2.2 ∧
                    y1.2.2 < (a0.size : Int) ∧
                    ((bt a0 y1.2.2) ≤ 57 →
                      0 ≤ y1.2.2 ∧
                      y1.2.2 < (a0.size : Int) ∧
                      (L0 ((IntKind.i64.wrap ((IntKind.i64.wrap (y1.1 * 10)) + (IntKind.i64.wrap (IntKind.u8.wrap ((bt a0 y1.2.2) - 48))))), (IntKind.i64.wrap (y1.2.1 + 1)), (IntKind.i64.wrap (y1.2.2 + 1))))) ∧
                    (¬ ((bt a0 y1.2.2) ≤ 57) →
                      (L0 (y1.1, y1.2.1, (IntKind.i64.wrap (y1.2.2 + 1)))))) ∧
                  (¬ (48 ≤ (bt a0 y1.2.2)) →
                    (L0 (y1.1, y1.2.1, (IntKind.i64.wrap (y1.2.2 + 1)))))) ∧
                (¬ (y1.2.2 < 11) →
                  (0 < (a0.size : Int) →
                    (0 : Int) ≤ 0 ∧
                    0 < (a0.size : Int) ∧
                    ((bt a0 0) = 45 →
                      (9 < y1.2.1 →
                        (Q (0, false))) ∧
                      (¬ (9 < y1.2.1) →
                        (10 < (a0.size : Int) →
                          (Q (0, false))) ∧
                        (¬ (10 < (a0.size : Int)) →
                          pDec (IntKind.i64.wrap (0 - y1.1)) ∧
                          ((mDec (IntKind.i64.wrap (0 - y1.1))) ≠ a0 →
                            (Q (0, false))) ∧
                          (¬ ((mDec (IntKind.i64.wrap (0 - y1.1))) ≠ a0) →
                            (Q ((IntKind.i64.wrap (0 - y1.1)), true)))))) ∧
                    (¬ ((bt a0 0) = 45) →
                      (9 < y1.2.1 →
                        (Q (0, false))) ∧
                      (¬ (9 < y1.2.1) →
                        (10 < (a0.size : Int) →
                          (Q (0, false))) ∧
                        (¬ (10 < (a0.size : Int)) →
                          pDec y1.1 ∧
                          ((mDec y1.1) ≠ a0 →
                            (Q (0, false))) ∧
                          (¬ ((mDec y1.1) ≠ a0) →
                            (Q (y1.1, true))))))) ∧
                  (¬ (0 < (a0.size : Int)) →
                    (9 < y1.2.1 →
                      (Q (0, false))) ∧
                    (¬ (9 < y1.2.1) →
                      (10 < (a0.size : Int) →
                        (Q (0, false))) ∧
                      (¬ (10 < (a0.size : Int)) →
                        pDec y1.1 ∧
                        ((mDec y1.1) ≠ a0 →
                          (Q (0, false))) ∧
                        (¬ ((mDec y1.1) ≠ a0) →
                          (Q (y1.1, true)))))))) ∧
              (¬ (y1.2.2 < (a0.size : Int)) →
                (0 < (a0.size : Int) →
                  (0 : Int) ≤ 0 ∧
                  0 < (a0.size : Int) ∧
                  ((bt a0 0) = 45 →
                    (9 < y1.2.1 →
                      (Q (0, false))) ∧
                    (¬ (9 < y1.2.1) →
                      (10 < (a0.size : Int) →
                        (Q (0, false))) ∧
                      (¬ (10 < (a0.size : Int)) →
                        pDec (IntKind.i64.wrap (0 - y1.1)) ∧
                        ((mDec (IntKind.i64.wrap (0 - y1.1))) ≠ a0 →
                          (Q (0, false))) ∧
                        (¬ ((mDec (IntKind.i64.wrap (0 - y1.1))) ≠ a0) →
                          (Q ((IntKind.i64.wrap (0 - y1.1)), true)))))) ∧
                  (¬ ((bt a0 0) = 45) →
                    (9 < y1.2.1 →
                      (Q (0, false))) ∧
                    (¬ (9 < y1.2.1) →
                      (10 < (a0.size : Int) →
                        (Q (0, false))) ∧
                      (¬ (10 < (a0.size : Int)) →
                        pDec y1.1 ∧
                        ((mDec y1.1) ≠ a0 →
                          (Q (0, false))) ∧
                        (¬ ((mDec y1.1) ≠ a0) →
                          (Q (y1.1, true))))))) ∧
                (¬ (0 < (a0.size : Int)) →
                  (9 < y1.2.1 →
                    (Q (0, false))) ∧
                  (¬ (9 < y1.2.1) →
                    (10 < (a0.size : Int) →
                      (Q (0, false))) ∧
                    (¬ (10 < (a0.size : Int)) →
                      pDec y1.1 ∧
                      ((mDec y1.1) ≠ a0 →
                        (Q (0, false))) ∧
                      (¬ ((mDec y1.1) ≠ a0) →
                        (Q (y1.1, true)))))))
            ) →
            (L0 y1)))
      ) →
      (L0 (0, 0, 0))))

def s_spec_ResponseOk (a0 : Rsp) (Q : (Bool → Prop)) : Prop :=
  pIn a0.1 200 599 ∧
  ((mIn a0.1 200 599) = true →
    pOwnFields a0.2.1 ∧
    ((mOwnFields a0.2.1) = true →
      ((a0.2.2.size : Int) ≤ 60 →
        (a0.1 ≠ 204 →
          (a0.1 ≠ 304 →
            (Q true)) ∧
          (¬ (a0.1 ≠ 304) →
            (Q (decide (a0.2.2 = (lit [])))))) ∧
        (¬ (a0.1 ≠ 204) →
          (Q (decide (a0.2.2 = (lit [])))))) ∧
      (¬ ((a0.2.2.size : Int) ≤ 60) →
        (Q false))) ∧
    (¬ ((mOwnFields a0.2.1) = true) →
      (Q false))) ∧
  (¬ ((mIn a0.1 200 599) = true) →
    (Q false))

def s_spec_SameFields (a0 : (List Fld)) (a1 : (List Fld)) (Q : (Bool → Prop)) : Prop :=
  ((a0.length : Int) ≠ (a1.length : Int) →
    (Q false)) ∧
  (¬ ((a0.length : Int) ≠ (a1.length : Int)) →
    (∀ L0 : (Int → Prop),
      ((
          (∀ y1 : Int,
            ((
                (y1 < (a0.length : Int) →
                  0 ≤ y1 ∧
                  y1 < (a0.length : Int) ∧
                  0 ≤ y1 ∧
                  y1 < (a1.length : Int) ∧
                  (¬ ((rx a0 y1) = (rx a1 y1)) →
                    (Q false)) ∧
                  (¬ (¬ ((rx a0 y1) = (rx a1 y1))) →
                    (L0 (IntKind.i64.wrap (y1 + 1))))) ∧
                (¬ (y1 < (a0.length : Int)) →
                  (Q true))
              ) →
              (L0 y1)))
        ) →
        (L0 0))))

def s_spec_ShardOk (a0 : Shd) (Q : (Bool → Prop)) : Prop :=
  pIn a0.1 1 8 ∧
  (¬ ((mIn a0.1 1 8) = true) →
    (Q false)) ∧
  (¬ (¬ ((mIn a0.1 1 8) = true)) →
    pIn a0.2.1 0 500 ∧
    (¬ ((mIn a0.2.1 0 500) = true) →
      (Q false)) ∧
    (¬ (¬ ((mIn a0.2.1 0 500) = true)) →
      (a0.1 < (a0.2.2.1.length : Int) →
        (Q false)) ∧
      (¬ (a0.1 < (a0.2.2.1.length : Int)) →
        pFilledS a0 ∧
        (a0.2.1 < (mFilledS a0) →
          (Q false)) ∧
        (¬ (a0.2.1 < (mFilledS a0)) →
          (a0.2.2.2 ≠ 0 →
            pIn a0.2.2.2 0 (IntKind.i64.wrap ((a0.2.2.1.length : Int) - 1)) ∧
            (¬ ((mIn a0.2.2.2 0 (IntKind.i64.wrap ((a0.2.2.1.length : Int) - 1))) = true) →
              (Q false)) ∧
            (¬ (¬ ((mIn a0.2.2.2 0 (IntKind.i64.wrap ((a0.2.2.1.length : Int) - 1))) = true)) →
              (∀ L0 : (Int → Prop),
                ((
                    (∀ y1 : Int,
                      ((
                          (y1 < (a0.2.2.1.length : Int) →
                            0 ≤ y1 ∧
                            y1 < (a0.2.2.1.length : Int) ∧
                            pStoredOk ((rx a0.2.2.1 y1).1, (rx a0.2.2.1 y1).2.1, (rx a0.2.2.1 y1).2.2.1, (rx a0.2.2.1 y1).2.2.2.1, (rx a0.2.2.1 y1).2.2.2.2.1, (rx a0.2.2.1 y1).2.2.2.2.2.1, (rx a0.2.2.1 y1).2.2.2.2.2.2.1) ∧
                            (¬ ((mStoredOk ((rx a0.2.2.1 y1).1, (rx a0.2.2.1 y1).2.1, (rx a0.2.2.1 y1).2.2.1, (rx a0.2.2.1 y1).2.2.2.1, (rx a0.2.2.1 y1).2.2.2.2.1, (rx a0.2.2.1 y1).2.2.2.2.2.1, (rx a0.2.2.1 y1).2.2.2.2.2.2.1)) = true) →
                              (Q false)) ∧
                            (¬ (¬ ((mStoredOk ((rx a0.2.2.1 y1).1, (rx a0.2.2.1 y1).2.1, (rx a0.2.2.1 y1).2.2.1, (rx a0.2.2.1 y1).2.2.2.1, (rx a0.2.2.1 y1).2.2.2.2.1, (rx a0.2.2.1 y1).2.2.2.2.2.1, (rx a0.2.2.1 y1).2.2.2.2.2.2.1)) = true)) →
                              (∀ L2 : (Int → Prop),
                                ((
                                    (∀ y3 : Int,
                                      ((
                                          (y3 < y1 →
                                            0 ≤ y3 ∧
                                            y3 < (a0.2.2.1.length : Int) ∧
                                            0 ≤ y1 ∧
                                            y1 < (a0.2.2.1.length : Int) ∧
                                            pStandAlike ((rx a0.2.2.1 y3).1, (rx a0.2.2.1 y3).2.1, (rx a0.2.2.1 y3).2.2.1, (rx a0.2.2.1 y3).2.2.2.1, (rx a0.2.2.1 y3).2.2.2.2.1, (rx a0.2.2.1 y3).2.2.2.2.2.1, (rx a0.2.2.1 y3).2.2.2.2.2.2.1) ((rx a0.2.2.1 y1).1, (rx a0.2.2.1 y1).2.1, (rx a0.2.2.1 y1).2.2.1, (rx a0.2.2.1 y1).2.2.2.1, (rx a0.2.2.1 y1).2.2.2.2.1, (rx a0.2.2.1 y1).2.2.2.2.2.1, (rx a0.2.2.1 y1).2.2.2.2.2.2.1) ∧
                                            ((mStandAlike ((rx a0.2.2.1 y3).1, (rx a0.2.2.1 y3).2.1, (rx a0.2.2.1 y3).2.2.1, (rx a0.2.2.1 y3).2.2.2.1, (rx a0.2.2.1 y3).2.2.2.2.1, (rx a0.2.2.1 y3).2.2.2.2.2.1, (rx a0.2.2.1 y3).2.2.2.2.2.2.1) ((rx a0.2.2.1 y1).1, (rx a0.2.2.1 y1).2.1, (rx a0.2.2.1 y1).2.2.1, (rx a0.2.2.1 y1).2.2.2.1, (rx a0.2.2.1 y1).2.2.2.2.1, (rx a0.2.2.1 y1).2.2.2.2.2.1, (rx a0.2.2.1 y1).2.2.2.2.2.2.1)) = true →
                                              (Q false)) ∧
                                            (¬ ((mStandAlike ((rx a0.2.2.1 y3).1, (rx a0.2.2.1 y3).2.1, (rx a0.2.2.1 y3).2.2.1, (rx a0.2.2.1 y3).2.2.2.1, (rx a0.2.2.1 y3).2.2.2.2.1, (rx a0.2.2.1 y3).2.2.2.2.2.1, (rx a0.2.2.1 y3).2.2.2.2.2.2.1) ((rx a0.2.2.1 y1).1, (rx a0.2.2.1 y1).2.1, (rx a0.2.2.1 y1).2.2.1, (rx a0.2.2.1 y1).2.2.2.1, (rx a0.2.2.1 y1).2.2.2.2.1, (rx a0.2.2.1 y1).2.2.2.2.2.1, (rx a0.2.2.1 y1).2.2.2.2.2.2.1)) = true) →
                                              (L2 (IntKind.i64.wrap (y3 + 1))))) ∧
                                          (¬ (y3 < y1) →
                                            (L0 (IntKind.i64.wrap (y1 + 1))))
                                        ) →
                                        (L2 y3)))
                                  ) →
                                  (L2 0))))) ∧
                          (¬ (y1 < (a0.2.2.1.length : Int)) →
                            (Q true))
                        ) →
                        (L0 y1)))
                  ) →
                  (L0 0))))) ∧
          (¬ (a0.2.2.2 ≠ 0) →
            (∀ L4 : (Int → Prop),
              ((
                  (∀ y5 : Int,
                    ((
                        (y5 < (a0.2.2.1.length : Int) →
                          0 ≤ y5 ∧
                          y5 < (a0.2.2.1.length : Int) ∧
                          pStoredOk ((rx a0.2.2.1 y5).1, (rx a0.2.2.1 y5).2.1, (rx a0.2.2.1 y5).2.2.1, (rx a0.2.2.1 y5).2.2.2.1, (rx a0.2.2.1 y5).2.2.2.2.1, (rx a0.2.2.1 y5).2.2.2.2.2.1, (rx a0.2.2.1 y5).2.2.2.2.2.2.1) ∧
                          (¬ ((mStoredOk ((rx a0.2.2.1 y5).1, (rx a0.2.2.1 y5).2.1, (rx a0.2.2.1 y5).2.2.1, (rx a0.2.2.1 y5).2.2.2.1, (rx a0.2.2.1 y5).2.2.2.2.1, (rx a0.2.2.1 y5).2.2.2.2.2.1, (rx a0.2.2.1 y5).2.2.2.2.2.2.1)) = true) →
                            (Q false)) ∧
                          (¬ (¬ ((mStoredOk ((rx a0.2.2.1 y5).1, (rx a0.2.2.1 y5).2.1, (rx a0.2.2.1 y5).2.2.1, (rx a0.2.2.1 y5).2.2.2.1, (rx a0.2.2.1 y5).2.2.2.2.1, (rx a0.2.2.1 y5).2.2.2.2.2.1, (rx a0.2.2.1 y5).2.2.2.2.2.2.1)) = true)) →
                            (∀ L6 : (Int → Prop),
                              ((
                                  (∀ y7 : Int,
                                    ((
                                        (y7 < y5 →
                                          0 ≤ y7 ∧
                                          y7 < (a0.2.2.1.length : Int) ∧
                                          0 ≤ y5 ∧
                                          y5 < (a0.2.2.1.length : Int) ∧
                                          pStandAlike ((rx a0.2.2.1 y7).1, (rx a0.2.2.1 y7).2.1, (rx a0.2.2.1 y7).2.2.1, (rx a0.2.2.1 y7).2.2.2.1, (rx a0.2.2.1 y7).2.2.2.2.1, (rx a0.2.2.1 y7).2.2.2.2.2.1, (rx a0.2.2.1 y7).2.2.2.2.2.2.1) ((rx a0.2.2.1 y5).1, (rx a0.2.2.1 y5).2.1, (rx a0.2.2.1 y5).2.2.1, (rx a0.2.2.1 y5).2.2.2.1, (rx a0.2.2.1 y5).2.2.2.2.1, (rx a0.2.2.1 y5).2.2.2.2.2.1, (rx a0.2.2.1 y5).2.2.2.2.2.2.1) ∧
                                          ((mStandAlike ((rx a0.2.2.1 y7).1, (rx a0.2.2.1 y7).2.1, (rx a0.2.2.1 y7).2.2.1, (rx a0.2.2.1 y7).2.2.2.1, (rx a0.2.2.1 y7).2.2.2.2.1, (rx a0.2.2.1 y7).2.2.2.2.2.1, (rx a0.2.2.1 y7).2.2.2.2.2.2.1) ((rx a0.2.2.1 y5).1, (rx a0.2.2.1 y5).2.1, (rx a0.2.2.1 y5).2.2.1, (rx a0.2.2.1 y5).2.2.2.1, (rx a0.2.2.1 y5).2.2.2.2.1, (rx a0.2.2.1 y5).2.2.2.2.2.1, (rx a0.2.2.1 y5).2.2.2.2.2.2.1)) = true →
                                            (Q false)) ∧
                                          (¬ ((mStandAlike ((rx a0.2.2.1 y7).1, (rx a0.2.2.1 y7).2.1, (rx a0.2.2.1 y7).2.2.1, (rx a0.2.2.1 y7).2.2.2.1, (rx a0.2.2.1 y7).2.2.2.2.1, (rx a0.2.2.1 y7).2.2.2.2.2.1, (rx a0.2.2.1 y7).2.2.2.2.2.2.1) ((rx a0.2.2.1 y5).1, (rx a0.2.2.1 y5).2.1, (rx a0.2.2.1 y5).2.2.1, (rx a0.2.2.1 y5).2.2.2.1, (rx a0.2.2.1 y5).2.2.2.2.1, (rx a0.2.2.1 y5).2.2.2.2.2.1, (rx a0.2.2.1 y5).2.2.2.2.2.2.1)) = true) →
                                            (L6 (IntKind.i64.wrap (y7 + 1))))) ∧
                                        (¬ (y7 < y5) →
                                          (L4 (IntKind.i64.wrap (y5 + 1))))
                                      ) →
                                      (L6 y7)))
                                ) →
                                (L6 0))))) ∧
                        (¬ (y5 < (a0.2.2.1.length : Int)) →
                          (Q true))
                      ) →
                      (L4 y5)))
                ) →
                (L4 0))))))))

def s_spec_SplitList (a0 : S) (Q : ((List S) → Prop)) : Prop :=
  (∀ L0 : (((List S) × (Int × (Bool × Int))) → Prop),
    ((
        (∀ y1 : ((List S) × (Int × (Bool × Int))),
          ((
              (y1.2.2.2 ≤ (a0.size : Int) →
                (y1.2.2.2 < (a0.size : Int) →
                  0 ≤ y1.2.2.2 ∧
                  y1.2.2.2 < (a0.size : Int) ∧
                  ((bt a0 y1.2.2.2) = 34 →
                    (y1.2.2.2 < (a0.size : Int) →
                      (¬ (y1.2.2.1 = true) →
                        0 ≤ y1.2.2.2 ∧
                        y1.2.2.2 < (a0.size : Int) ∧
                        ((bt a0 y1.2.2.2) = 92 →
                          (L0 (y1.1, y1.2.1, (decide (¬ (y1.2.2.1 = true))), (IntKind.i64.wrap ((IntKind.i64.wrap (y1.2.2.2 + 1)) + 1))))) ∧
                        (¬ ((bt a0 y1.2.2.2) = 92) →
                          ((a0.size : Int) ≤ y1.2.2.2 →
                            0 ≤ y1.2.1 ∧
                            y1.2.1 ≤ (if (a0.size : Int) < y1.2.2.2 then (a0.size : Int) else y1.2.2.2) ∧
                            (if (a0.size : Int) < y1.2.2.2 then (a0.size : Int) else y1.2.2.2) ≤ (a0.size : Int) ∧
                            pTrim (a0.extract y1.2.1.toNat (if (a0.size : Int) < y1.2.2.2 then (a0.size : Int) else y1.2.2.2).toNat) ∧
                            ((mTrim (a0.extract y1.2.1.toNat (if (a0.size : Int) < y1.2.2.2 then (a0.size : Int) else y1.2.2.2).toNat)) ≠ (lit []) →
                              (y1.1.length + [(mTrim (a0.extract y1.2.1.toNat (if (a0.size : Int) < y1.2.2.2 then (a0.size : Int) else y1.2.2.2).toNat))].length) * 16 ≤ 140737488355328 ∧
                              (L0 ((y1.1 ++ [(mTrim (a0.extract y1.2.1.toNat (if (a0.size : Int) < y1.2.2.2 then (a0.size : Int) else y1.2.2.2).toNat))]), (IntKind.i64.wrap (y1.2.2.2 + 1)), (decide (¬ (y1.2.2.1 = true))), (IntKind.i64.wrap (y1.2.2.2 + 1))))) ∧
                            (¬ ((mTrim (a0.extract y1.2.1.toNat (if (a0.size : Int) < y1.2.2.2 then (a0.size : Int) else y1.2.2.2).toNat)) ≠ (lit [])) →
                              (L0 (y1.1, (IntKind.i64.wrap (y1.2.2.2 + 1)), (decide (¬ (y1.2.2.1 = true))), (IntKind.i64.wrap (y1.2.2.2 + 1)))))) ∧
                          (¬ ((a0.size : Int) ≤ y1.2.2.2) →
                            0 ≤ y1.2.2.2 ∧
                            y1.2.2.2 < (a0.size : Int) ∧
                            ((bt a0 y1.2.2.2) = 44 →
                              (¬ (¬ (y1.2.2.1 = true)) →
                                0 ≤ y1.2.1 ∧
                                y1.2.1 ≤ (if (a0.size : Int) < y1.2.2.2 then (a0.size : Int) else y1.2.2.2) ∧
                                (if (a0.size : Int) < y1.2.2.2 then (a0.size : Int) else y1.2.2.2) ≤ (a0.size : Int) ∧
                                pTrim (a0.extract y1.2.1.toNat (if (a0.size : Int) < y1.2.2.2 then (a0.size : Int) else y1.2.2.2).toNat) ∧
                                ((mTrim (a0.extract y1.2.1.toNat (if (a0.size : Int) < y1.2.2.2 then (a0.size : Int) else y1.2.2.2).toNat)) ≠ (lit []) →
                                  (y1.1.length + [(mTrim (a0.extract y1.2.1.toNat (if (a0.size : Int) < y1.2.2.2 then (a0.size : Int) else y1.2.2.2).toNat))].length) * 16 ≤ 140737488355328 ∧
                                  (L0 ((y1.1 ++ [(mTrim (a0.extract y1.2.1.toNat (if (a0.size : Int) < y1.2.2.2 then (a0.size : Int) else y1.2.2.2).toNat))]), (IntKind.i64.wrap (y1.2.2.2 + 1)), (decide (¬ (y1.2.2.1 = true))), (IntKind.i64.wrap (y1.2.2.2 + 1))))) ∧
                                (¬ ((mTrim (a0.extract y1.2.1.toNat (if (a0.size : Int) < y1.2.2.2 then (a0.size : Int) else y1.2.2.2).toNat)) ≠ (lit [])) →
                                  (L0 (y1.1, (IntKind.i64.wrap (y1.2.2.2 + 1)), (decide (¬ (y1.2.2.1 = true))), (IntKind.i64.wrap (y1.2.2.2 + 1)))))) ∧
                              (¬ (¬ (¬ (y1.2.2.1 = true))) →
                                (L0 (y1.1, y1.2.1, (decide (¬ (y1.2.2.1 = true))), (IntKind.i64.wrap (y1.2.2.2 + 1)))))) ∧
                            (¬ ((bt a0 y1.2.2.2) = 44) →
                              (L0 (y1.1, y1.2.1, (decide (¬ (y1.2.2.1 = true))), (IntKind.i64.wrap (y1.2.2.2 + 1)))))))) ∧
                      (¬ (¬ (y1.2.2.1 = true)) →
                        ((a0.size : Int) ≤ y1.2.2.2 →
                          0 ≤ y1.2.1 ∧
                          y1.2.1 ≤ (if (a0.size : Int) < y1.2.2.2 then (a0.size : Int) else y1.2.2.2) ∧
                          (if (a0.size : Int) < y1.2.2.2 then (a0.size : Int) else y1.2.2.2) ≤ (a0.size : Int) ∧
                          pTrim (a0.extract y1.2.1.toNat (if (a0.size : Int) < y1.2.2.2 then (a0.size : Int) else y1.2.2.2).toNat) ∧
                          ((mTrim (a0.extract y1.2.1.toNat (if (a0.size : Int) < y1.2.2.2 then (a0.size : Int) else y1.2.2.2).toNat)) ≠ (lit []) →
                            (y1.1.length + [(mTrim (a0.extract y1.2.1.toNat (if (a0.size : Int) < y1.2.2.2 then (a0.size : Int) else y1.2.2.2).toNat))].length) * 16 ≤ 140737488355328 ∧
                            (L0 ((y1.1 ++ [(mTrim (a0.extract y1.2.1.toNat (if (a0.size : Int) < y1.2.2.2 then (a0.size : Int) else y1.2.2.2).toNat))]), (IntKind.i64.wrap (y1.2.2.2 + 1)), (decide (¬ (y1.2.2.1 = true))), (IntKind.i64.wrap (y1.2.2.2 + 1))))) ∧
                          (¬ ((mTrim (a0.extract y1.2.1.toNat (if (a0.size : Int) < y1.2.2.2 then (a0.size : Int) else y1.2.2.2).toNat)) ≠ (lit [])) →
                            (L0 (y1.1, (IntKind.i64.wrap (y1.2.2.2 + 1)), (decide (¬ (y1.2.2.1 = true))), (IntKind.i64.wrap (y1.2.2.2 + 1)))))) ∧
                        (¬ ((a0.size : Int) ≤ y1.2.2.2) →
                          0 ≤ y1.2.2.2 ∧
                          y1.2.2.2 < (a0.size : Int) ∧
                          ((bt a0 y1.2.2.2) = 44 →
                            (¬ (¬ (y1.2.2.1 = true)) →
                              0 ≤ y1.2.1 ∧
                              y1.2.1 ≤ (if (a0.size : Int) < y1.2.2.2 then (a0.size : Int) else y1.2.2.2) ∧
                              (if (a0.size : Int) < y1.2.2.2 then (a0.size : Int) else y1.2.2.2) ≤ (a0.size : Int) ∧
                              pTrim (a0.extract y1.2.1.toNat (if (a0.size : Int) < y1.2.2.2 then (a0.size : Int) else y1.2.2.2).toNat) ∧
                              ((mTrim (a0.extract y1.2.1.toNat (if (a0.size : Int) < y1.2.2.2 then (a0.size : Int) else y1.2.2.2).toNat)) ≠ (lit []) →
                                (y1.1.length + [(mTrim (a0.extract y1.2.1.toNat (if (a0.size : Int) < y1.2.2.2 then (a0.size : Int) else y1.2.2.2).toNat))].length) * 16 ≤ 140737488355328 ∧
                                (L0 ((y1.1 ++ [(mTrim (a0.extract y1.2.1.toNat (if (a0.size : Int) < y1.2.2.2 then (a0.size : Int) else y1.2.2.2).toNat))]), (IntKind.i64.wrap (y1.2.2.2 + 1)), (decide (¬ (y1.2.2.1 = true))), (IntKind.i64.wrap (y1.2.2.2 + 1))))) ∧
                              (¬ ((mTrim (a0.extract y1.2.1.toNat (if (a0.size : Int) < y1.2.2.2 then (a0.size : Int) else y1.2.2.2).toNat)) ≠ (lit [])) →
                                (L0 (y1.1, (IntKind.i64.wrap (y1.2.2.2 + 1)), (decide (¬ (y1.2.2.1 = true))), (IntKind.i64.wrap (y1.2.2.2 + 1)))))) ∧
                            (¬ (¬ (¬ (y1.2.2.1 = true))) →
                              (L0 (y1.1, y1.2.1, (decide (¬ (y1.2.2.1 = true))), (IntKind.i64.wrap (y1.2.2.2 + 1)))))) ∧
                          (¬ ((bt a0 y1.2.2.2) = 44) →
                            (L0 (y1.1, y1.2.1, (decide (¬ (y1.2.2.1 = true))), (IntKind.i64.wrap (y1.2.2.2 + 1)))))))) ∧
                    (¬ (y1.2.2.2 < (a0.size : Int)) →
                      ((a0.size : Int) ≤ y1.2.2.2 →
                        0 ≤ y1.2.1 ∧
                        y1.2.1 ≤ (if (a0.size : Int) < y1.2.2.2 then (a0.size : Int) else y1.2.2.2) ∧
                        (if (a0.size : Int) < y1.2.2.2 then (a0.size : Int) else y1.2.2.2) ≤ (a0.size : Int) ∧
                        pTrim (a0.extract y1.2.1.toNat (if (a0.size : Int) < y1.2.2.2 then (a0.size : Int) else y1.2.2.2).toNat) ∧
                        ((mTrim (a0.extract y1.2.1.toNat (if (a0.size : Int) < y1.2.2.2 then (a0.size : Int) else y1.2.2.2).toNat)) ≠ (lit []) →
                          (y1.1.length + [(mTrim (a0.extract y1.2.1.toNat (if (a0.size : Int) < y1.2.2.2 then (a0.size : Int) else y1.2.2.2).toNat))].length) * 16 ≤ 140737488355328 ∧
                          (L0 ((y1.1 ++ [(mTrim (a0.extract y1.2.1.toNat (if (a0.size : Int) < y1.2.2.2 then (a0.size : Int) else y1.2.2.2).toNat))]), (IntKind.i64.wrap (y1.2.2.2 + 1)), (decide (¬ (y1.2.2.1 = true))), (IntKind.i64.wrap (y1.2.2.2 + 1))))) ∧
                        (¬ ((mTrim (a0.extract y1.2.1.toNat (if (a0.size : Int) < y1.2.2.2 then (a0.size : Int) else y1.2.2.2).toNat)) ≠ (lit [])) →
                          (L0 (y1.1, (IntKind.i64.wrap (y1.2.2.2 + 1)), (decide (¬ (y1.2.2.1 = true))), (IntKind.i64.wrap (y1.2.2.2 + 1)))))) ∧
                      (¬ ((a0.size : Int) ≤ y1.2.2.2) →
                        0 ≤ y1.2.2.2 ∧
                        y1.2.2.2 < (a0.size : Int) ∧
                        ((bt a0 y1.2.2.2) = 44 →
                          (¬ (¬ (y1.2.2.1 = true)) →
                            0 ≤ y1.2.1 ∧
                            y1.2.1 ≤ (if (a0.size : Int) < y1.2.2.2 then (a0.size : Int) else y1.2.2.2) ∧
                            (if (a0.size : Int) < y1.2.2.2 then (a0.size : Int) else y1.2.2.2) ≤ (a0.size : Int) ∧
                            pTrim (a0.extract y1.2.1.toNat (if (a0.size : Int) < y1.2.2.2 then (a0.size : Int) else y1.2.2.2).toNat) ∧
                            ((mTrim (a0.extract y1.2.1.toNat (if (a0.size : Int) < y1.2.2.2 then (a0.size : Int) else y1.2.2.2).toNat)) ≠ (lit []) →
                              (y1.1.length + [(mTrim (a0.extract y1.2.1.toNat (if (a0.size : Int) < y1.2.2.2 then (a0.size : Int) else y1.2.2.2).toNat))].length) * 16 ≤ 140737488355328 ∧
                              (L0 ((y1.1 ++ [(mTrim (a0.extract y1.2.1.toNat (if (a0.size : Int) < y1.2.2.2 then (a0.size : Int) else y1.2.2.2).toNat))]), (IntKind.i64.wrap (y1.2.2.2 + 1)), (decide (¬ (y1.2.2.1 = true))), (IntKind.i64.wrap (y1.2.2.2 + 1))))) ∧
                            (¬ ((mTrim (a0.extract y1.2.1.toNat (if (a0.size : Int) < y1.2.2.2 then (a0.size : Int) else y1.2.2.2).toNat)) ≠ (lit [])) →
                              (L0 (y1.1, (IntKind.i64.wrap (y1.2.2.2 + 1)), (decide (¬ (y1.2.2.1 = true))), (IntKind.i64.wrap (y1.2.2.2 + 1)))))) ∧
                          (¬ (¬ (¬ (y1.2.2.1 = true))) →
                            (L0 (y1.1, y1.2.1, (decide (¬ (y1.2.2.1 = true))), (IntKind.i64.wrap (y1.2.2.2 + 1)))))) ∧
                        (¬ ((bt a0 y1.2.2.2) = 44) →
                          (L0 (y1.1, y1.2.1, (decide (¬ (y1.2.2.1 = true))), (IntKind.i64.wrap (y1.2.2.2 + 1)))))))) ∧
                  (¬ ((bt a0 y1.2.2.2) = 34) →
                    (y1.2.2.2 < (a0.size : Int) →
                      (y1.2.2.1 = true →
                        0 ≤ y1.2.2.2 ∧
                        y1.2.2.2 < (a0.size : Int) ∧
                        ((bt a0 y1.2.2.2) = 92 →
                          (L0 (y1.1, y1.2.1, y1.2.2.1, (IntKind.i64.wrap ((IntKind.i64.wrap (y1.2.2.2 + 1)) + 1))))) ∧
                        (¬ ((bt a0 y1.2.2.2) = 92) →
                          ((a0.size : Int) ≤ y1.2.2.2 →
                            0 ≤ y1.2.1 ∧
                            y1.2.1 ≤ (if (a0.size : Int) < y1.2.2.2 then (a0.size : Int) else y1.2.2.2) ∧
                            (if (a0.size : Int) < y1.2.2.2 then (a0.size : Int) else y1.2.2.2) ≤ (a0.size : Int) ∧
                            pTrim (a0.extract y1.2.1.toNat (if (a0.size : Int) < y1.2.2.2 then (a0.size : Int) else y1.2.2.2).toNat) ∧
                            ((mTrim (a0.extract y1.2.1.toNat (if (a0.size : Int) < y1.2.2.2 then (a0.size : Int) else y1.2.2.2).toNat)) ≠ (lit []) →
                              (y1.1.length + [(mTrim (a0.extract y1.2.1.toNat (if (a0.size : Int) < y1.2.2.2 then (a0.size : Int) else y1.2.2.2).toNat))].length) * 16 ≤ 140737488355328 ∧
                              (L0 ((y1.1 ++ [(mTrim (a0.extract y1.2.1.toNat (if (a0.size : Int) < y1.2.2.2 then (a0.size : Int) else y1.2.2.2).toNat))]), (IntKind.i64.wrap (y1.2.2.2 + 1)), y1.2.2.1, (IntKind.i64.wrap (y1.2.2.2 + 1))))) ∧
                            (¬ ((mTrim (a0.extract y1.2.1.toNat (if (a0.size : Int) < y1.2.2.2 then (a0.size : Int) else y1.2.2.2).toNat)) ≠ (lit [])) →
                              (L0 (y1.1, (IntKind.i64.wrap (y1.2.2.2 + 1)), y1.2.2.1, (IntKind.i64.wrap (y1.2.2.2 + 1)))))) ∧
                          (¬ ((a0.size : Int) ≤ y1.2.2.2) →
                            0 ≤ y1.2.2.2 ∧
                            y1.2.2.2 < (a0.size : Int) ∧
                            ((bt a0 y1.2.2.2) = 44 →
                              (¬ (y1.2.2.1 = true) →
                                0 ≤ y1.2.1 ∧
                                y1.2.1 ≤ (if (a0.size : Int) < y1.2.2.2 then (a0.size : Int) else y1.2.2.2) ∧
                                (if (a0.size : Int) < y1.2.2.2 then (a0.size : Int) else y1.2.2.2) ≤ (a0.size : Int) ∧
                                pTrim (a0.extract y1.2.1.toNat (if (a0.size : Int) < y1.2.2.2 then (a0.size : Int) else y1.2.2.2).toNat) ∧
                                ((mTrim (a0.extract y1.2.1.toNat (if (a0.size : Int) < y1.2.2.2 then (a0.size : Int) else y1.2.2.2).toNat)) ≠ (lit []) →
                                  (y1.1.length + [(mTrim (a0.extract y1.2.1.toNat (if (a0.size : Int) < y1.2.2.2 then (a0.size : Int) else y1.2.2.2).toNat))].length) * 16 ≤ 140737488355328 ∧
                                  (L0 ((y1.1 ++ [(mTrim (a0.extract y1.2.1.toNat (if (a0.size : Int) < y1.2.2.2 then (a0.size : Int) else y1.2.2.2).toNat))]), (IntKind.i64.wrap (y1.2.2.2 + 1)), y1.2.2.1, (IntKind.i64.wrap (y1.2.2.2 + 1))))) ∧
                                (¬ ((mTrim (a0.extract y1.2.1.toNat (if (a0.size : Int) < y1.2.2.2 then (a0.size : Int) else y1.2.2.2).toNat)) ≠ (lit [])) →
                                  (L0 (y1.1, (IntKind.i64.wrap (y1.2.2.2 + 1)), y1.2.2.1, (IntKind.i64.wrap (y1.2.2.2 + 1)))))) ∧
                              (¬ (¬ (y1.2.2.1 = true)) →
                                (L0 (y1.1, y1.2.1, y1.2.2.1, (IntKind.i64.wrap (y1.2.2.2 + 1)))))) ∧
                            (¬ ((bt a0 y1.2.2.2) = 44) →
                              (L0 (y1.1, y1.2.1, y1.2.2.1, (IntKind.i64.wrap (y1.2.2.2 + 1)))))))) ∧
                      (¬ (y1.2.2.1 = true) →
                        ((a0.size : Int) ≤ y1.2.2.2 →
                          0 ≤ y1.2.1 ∧
                          y1.2.1 ≤ (if (a0.size : Int) < y1.2.2.2 then (a0.size : Int) else y1.2.2.2) ∧
                          (if (a0.size : Int) < y1.2.2.2 then (a0.size : Int) else y1.2.2.2) ≤ (a0.size : Int) ∧
                          pTrim (a0.extract y1.2.1.toNat (if (a0.size : Int) < y1.2.2.2 then (a0.size : Int) else y1.2.2.2).toNat) ∧
                          ((mTrim (a0.extract y1.2.1.toNat (if (a0.size : Int) < y1.2.2.2 then (a0.size : Int) else y1.2.2.2).toNat)) ≠ (lit []) →
                            (y1.1.length + [(mTrim (a0.extract y1.2.1.toNat (if (a0.size : Int) < y1.2.2.2 then (a0.size : Int) else y1.2.2.2).toNat))].length) * 16 ≤ 140737488355328 ∧
                            (L0 ((y1.1 ++ [(mTrim (a0.extract y1.2.1.toNat (if (a0.size : Int) < y1.2.2.2 then (a0.size : Int) else y1.2.2.2).toNat))]), (IntKind.i64.wrap (y1.2.2.2 + 1)), y1.2.2.1, (IntKind.i64.wrap (y1.2.2.2 + 1))))) ∧
                          (¬ ((mTrim (a0.extract y1.2.1.toNat (if (a0.size : Int) < y1.2.2.2 then (a0.size : Int) else y1.2.2.2).toNat)) ≠ (lit [])) →
                            (L0 (y1.1, (IntKind.i64.wrap (y1.2.2.2 + 1)), y1.2.2.1, (IntKind.i64.wrap (y1.2.2.2 + 1)))))) ∧
                        (¬ ((a0.size : Int) ≤ y1.2.2.2) →
                          0 ≤ y1.2.2.2 ∧
                          y1.2.2.2 < (a0.size : Int) ∧
                          ((bt a0 y1.2.2.2) = 44 →
                            (¬ (y1.2.2.1 = true) →
                              0 ≤ y1.2.1 ∧
                              y1.2.1 ≤ (if (a0.size : Int) < y1.2.2.2 then (a0.size : Int) else y1.2.2.2) ∧
                              (if (a0.size : Int) < y1.2.2.2 then (a0.size : Int) else y1.2.2.2) ≤ (a0.size : Int) ∧
                              pTrim (a0.extract y1.2.1.toNat (if (a0.size : Int) < y1.2.2.2 then (a0.size : Int) else y1.2.2.2).toNat) ∧
                              ((mTrim (a0.extract y1.2.1.toNat (if (a0.size : Int) < y1.2.2.2 then (a0.size : Int) else y1.2.2.2).toNat)) ≠ (lit []) →
                                (y1.1.length + [(mTrim (a0.extract y1.2.1.toNat (if (a0.size : Int) < y1.2.2.2 then (a0.size : Int) else y1.2.2.2).toNat))].length) * 16 ≤ 140737488355328 ∧
                                (L0 ((y1.1 ++ [(mTrim (a0.extract y1.2.1.toNat (if (a0.size : Int) < y1.2.2.2 then (a0.size : Int) else y1.2.2.2).toNat))]), (IntKind.i64.wrap (y1.2.2.2 + 1)), y1.2.2.1, (IntKind.i64.wrap (y1.2.2.2 + 1))))) ∧
                              (¬ ((mTrim (a0.extract y1.2.1.toNat (if (a0.size : Int) < y1.2.2.2 then (a0.size : Int) else y1.2.2.2).toNat)) ≠ (lit [])) →
                                (L0 (y1.1, (IntKind.i64.wrap (y1.2.2.2 + 1)), y1.2.2.1, (IntKind.i64.wrap (y1.2.2.2 + 1)))))) ∧
                            (¬ (¬ (y1.2.2.1 = true)) →
                              (L0 (y1.1, y1.2.1, y1.2.2.1, (IntKind.i64.wrap (y1.2.2.2 + 1)))))) ∧
                          (¬ ((bt a0 y1.2.2.2) = 44) →
                            (L0 (y1.1, y1.2.1, y1.2.2.1, (IntKind.i64.wrap (y1.2.2.2 + 1)))))))) ∧
                    (¬ (y1.2.2.2 < (a0.size : Int)) →
                      ((a0.size : Int) ≤ y1.2.2.2 →
                        0 ≤ y1.2.1 ∧
                        y1.2.1 ≤ (if (a0.size : Int) < y1.2.2.2 then (a0.size : Int) else y1.2.2.2) ∧
                        (if (a0.size : Int) < y1.2.2.2 then (a0.size : Int) else y1.2.2.2) ≤ (a0.size : Int) ∧
                        pTrim (a0.extract y1.2.1.toNat (if (a0.size : Int) < y1.2.2.2 then (a0.size : Int) else y1.2.2.2).toNat) ∧
                        ((mTrim (a0.extract y1.2.1.toNat (if (a0.size : Int) < y1.2.2.2 then (a0.size : Int) else y1.2.2.2).toNat)) ≠ (lit []) →
                          (y1.1.length + [(mTrim (a0.extract y1.2.1.toNat (if (a0.size : Int) < y1.2.2.2 then (a0.size : Int) else y1.2.2.2).toNat))].length) * 16 ≤ 140737488355328 ∧
                          (L0 ((y1.1 ++ [(mTrim (a0.extract y1.2.1.toNat (if (a0.size : Int) < y1.2.2.2 then (a0.size : Int) else y1.2.2.2).toNat))]), (IntKind.i64.wrap (y1.2.2.2 + 1)), y1.2.2.1, (IntKind.i64.wrap (y1.2.2.2 + 1))))) ∧
                        (¬ ((mTrim (a0.extract y1.2.1.toNat (if (a0.size : Int) < y1.2.2.2 then (a0.size : Int) else y1.2.2.2).toNat)) ≠ (lit [])) →
                          (L0 (y1.1, (IntKind.i64.wrap (y1.2.2.2 + 1)), y1.2.2.1, (IntKind.i64.wrap (y1.2.2.2 + 1)))))) ∧
                      (¬ ((a0.size : Int) ≤ y1.2.2.2) →
                        0 ≤ y1.2.2.2 ∧
                        y1.2.2.2 < (a0.size : Int) ∧
                        ((bt a0 y1.2.2.2) = 44 →
                          (¬ (y1.2.2.1 = true) →
                            0 ≤ y1.2.1 ∧
                            y1.2.1 ≤ (if (a0.size : Int) < y1.2.2.2 then (a0.size : Int) else y1.2.2.2) ∧
                            (if (a0.size : Int) < y1.2.2.2 then (a0.size : Int) else y1.2.2.2) ≤ (a0.size : Int) ∧
                            pTrim (a0.extract y1.2.1.toNat (if (a0.size : Int) < y1.2.2.2 then (a0.size : Int) else y1.2.2.2).toNat) ∧
                            ((mTrim (a0.extract y1.2.1.toNat (if (a0.size : Int) < y1.2.2.2 then (a0.size : Int) else y1.2.2.2).toNat)) ≠ (lit []) →
                              (y1.1.length + [(mTrim (a0.extract y1.2.1.toNat (if (a0.size : Int) < y1.2.2.2 then (a0.size : Int) else y1.2.2.2).toNat))].length) * 16 ≤ 140737488355328 ∧
                              (L0 ((y1.1 ++ [(mTrim (a0.extract y1.2.1.toNat (if (a0.size : Int) < y1.2.2.2 then (a0.size : Int) else y1.2.2.2).toNat))]), (IntKind.i64.wrap (y1.2.2.2 + 1)), y1.2.2.1, (IntKind.i64.wrap (y1.2.2.2 + 1))))) ∧
                            (¬ ((mTrim (a0.extract y1.2.1.toNat (if (a0.size : Int) < y1.2.2.2 then (a0.size : Int) else y1.2.2.2).toNat)) ≠ (lit [])) →
                              (L0 (y1.1, (IntKind.i64.wrap (y1.2.2.2 + 1)), y1.2.2.1, (IntKind.i64.wrap (y1.2.2.2 + 1)))))) ∧
                          (¬ (¬ (y1.2.2.1 = true)) →
                            (L0 (y1.1, y1.2.1, y1.2.2.1, (IntKind.i64.wrap (y1.2.2.2 + 1)))))) ∧
                        (¬ ((bt a0 y1.2.2.2) = 44) →
                          (L0 (y1.1, y1.2.1, y1.2.2.1, (IntKind.i64.wrap (y1.2.2.2 + 1))))))))) ∧
                (¬ (y1.2.2.2 < (a0.size : Int)) →
                  (y1.2.2.2 < (a0.size : Int) →
                    (y1.2.2.1 = true →
                      0 ≤ y1.2.2.2 ∧
                      y1.2.2.2 < (a0.size : Int) ∧
                      ((bt a0 y1.2.2.2) = 92 →
                        (L0 (y1.1, y1.2.1, y1.2.2.1, (IntKind.i64.wrap ((IntKind.i64.wrap (y1.2.2.2 + 1)) + 1))))) ∧
                      (¬ ((bt a0 y1.2.2.2) = 92) →
                        ((a0.size : Int) ≤ y1.2.2.2 →
                          0 ≤ y1.2.1 ∧
                          y1.2.1 ≤ (if (a0.size : Int) < y1.2.2.2 then (a0.size : Int) else y1.2.2.2) ∧
                          (if (a0.size : Int) < y1.2.2.2 then (a0.size : Int) else y1.2.2.2) ≤ (a0.size : Int) ∧
                          pTrim (a0.extract y1.2.1.toNat (if (a0.size : Int) < y1.2.2.2 then (a0.size : Int) else y1.2.2.2).toNat) ∧
                          ((mTrim (a0.extract y1.2.1.toNat (if (a0.size : Int) < y1.2.2.2 then (a0.size : Int) else y1.2.2.2).toNat)) ≠ (lit []) →
                            (y1.1.length + [(mTrim (a0.extract y1.2.1.toNat (if (a0.size : Int) < y1.2.2.2 then (a0.size : Int) else y1.2.2.2).toNat))].length) * 16 ≤ 140737488355328 ∧
                            (L0 ((y1.1 ++ [(mTrim (a0.extract y1.2.1.toNat (if (a0.size : Int) < y1.2.2.2 then (a0.size : Int) else y1.2.2.2).toNat))]), (IntKind.i64.wrap (y1.2.2.2 + 1)), y1.2.2.1, (IntKind.i64.wrap (y1.2.2.2 + 1))))) ∧
                          (¬ ((mTrim (a0.extract y1.2.1.toNat (if (a0.size : Int) < y1.2.2.2 then (a0.size : Int) else y1.2.2.2).toNat)) ≠ (lit [])) →
                            (L0 (y1.1, (IntKind.i64.wrap (y1.2.2.2 + 1)), y1.2.2.1, (IntKind.i64.wrap (y1.2.2.2 + 1)))))) ∧
                        (¬ ((a0.size : Int) ≤ y1.2.2.2) →
                          0 ≤ y1.2.2.2 ∧
                          y1.2.2.2 < (a0.size : Int) ∧
                          ((bt a0 y1.2.2.2) = 44 →
                            (¬ (y1.2.2.1 = true) →
                              0 ≤ y1.2.1 ∧
                              y1.2.1 ≤ (if (a0.size : Int) < y1.2.2.2 then (a0.size : Int) else y1.2.2.2) ∧
                              (if (a0.size : Int) < y1.2.2.2 then (a0.size : Int) else y1.2.2.2) ≤ (a0.size : Int) ∧
                              pTrim (a0.extract y1.2.1.toNat (if (a0.size : Int) < y1.2.2.2 then (a0.size : Int) else y1.2.2.2).toNat) ∧
                              ((mTrim (a0.extract y1.2.1.toNat (if (a0.size : Int) < y1.2.2.2 then (a0.size : Int) else y1.2.2.2).toNat)) ≠ (lit []) →
                                (y1.1.length + [(mTrim (a0.extract y1.2.1.toNat (if (a0.size : Int) < y1.2.2.2 then (a0.size : Int) else y1.2.2.2).toNat))].length) * 16 ≤ 140737488355328 ∧
                                (L0 ((y1.1 ++ [(mTrim (a0.extract y1.2.1.toNat (if (a0.size : Int) < y1.2.2.2 then (a0.size : Int) else y1.2.2.2).toNat))]), (IntKind.i64.wrap (y1.2.2.2 + 1)), y1.2.2.1, (IntKind.i64.wrap (y1.2.2.2 + 1))))) ∧
                              (¬ ((mTrim (a0.extract y1.2.1.toNat (if (a0.size : Int) < y1.2.2.2 then (a0.size : Int) else y1.2.2.2).toNat)) ≠ (lit [])) →
                                (L0 (y1.1, (IntKind.i64.wrap (y1.2.2.2 + 1)), y1.2.2.1, (IntKind.i64.wrap (y1.2.2.2 + 1)))))) ∧
                            (¬ (¬ (y1.2.2.1 = true)) →
                              (L0 (y1.1, y1.2.1, y1.2.2.1, (IntKind.i64.wrap (y1.2.2.2 + 1)))))) ∧
                          (¬ ((bt a0 y1.2.2.2) = 44) →
                            (L0 (y1.1, y1.2.1, y1.2.2.1, (IntKind.i64.wrap (y1.2.2.2 + 1)))))))) ∧
                    (¬ (y1.2.2.1 = true) →
                      ((a0.size : Int) ≤ y1.2.2.2 →
                        0 ≤ y1.2.1 ∧
                        y1.2.1 ≤ (if (a0.size : Int) < y1.2.2.2 then (a0.size : Int) else y1.2.2.2) ∧
                        (if (a0.size : Int) < y1.2.2.2 then (a0.size : Int) else y1.2.2.2) ≤ (a0.size : Int) ∧
                        pTrim (a0.extract y1.2.1.toNat (if (a0.size : Int) < y1.2.2.2 then (a0.size : Int) else y1.2.2.2).toNat) ∧
                        ((mTrim (a0.extract y1.2.1.toNat (if (a0.size : Int) < y1.2.2.2 then (a0.size : Int) else y1.2.2.2).toNat)) ≠ (lit []) →
                          (y1.1.length + [(mTrim (a0.extract y1.2.1.toNat (if (a0.size : Int) < y1.2.2.2 then (a0.size : Int) else y1.2.2.2).toNat))].length) * 16 ≤ 140737488355328 ∧
                          (L0 ((y1.1 ++ [(mTrim (a0.extract y1.2.1.toNat (if (a0.size : Int) < y1.2.2.2 then (a0.size : Int) else y1.2.2.2).toNat))]), (IntKind.i64.wrap (y1.2.2.2 + 1)), y1.2.2.1, (IntKind.i64.wrap (y1.2.2.2 + 1))))) ∧
                        (¬ ((mTrim (a0.extract y1.2.1.toNat (if (a0.size : Int) < y1.2.2.2 then (a0.size : Int) else y1.2.2.2).toNat)) ≠ (lit [])) →
                          (L0 (y1.1, (IntKind.i64.wrap (y1.2.2.2 + 1)), y1.2.2.1, (IntKind.i64.wrap (y1.2.2.2 + 1)))))) ∧
                      (¬ ((a0.size : Int) ≤ y1.2.2.2) →
                        0 ≤ y1.2.2.2 ∧
                        y1.2.2.2 < (a0.size : Int) ∧
                        ((bt a0 y1.2.2.2) = 44 →
                          (¬ (y1.2.2.1 = true) →
                            0 ≤ y1.2.1 ∧
                            y1.2.1 ≤ (if (a0.size : Int) < y1.2.2.2 then (a0.size : Int) else y1.2.2.2) ∧
                            (if (a0.size : Int) < y1.2.2.2 then (a0.size : Int) else y1.2.2.2) ≤ (a0.size : Int) ∧
                            pTrim (a0.extract y1.2.1.toNat (if (a0.size : Int) < y1.2.2.2 then (a0.size : Int) else y1.2.2.2).toNat) ∧
                            ((mTrim (a0.extract y1.2.1.toNat (if (a0.size : Int) < y1.2.2.2 then (a0.size : Int) else y1.2.2.2).toNat)) ≠ (lit []) →
                              (y1.1.length + [(mTrim (a0.extract y1.2.1.toNat (if (a0.size : Int) < y1.2.2.2 then (a0.size : Int) else y1.2.2.2).toNat))].length) * 16 ≤ 140737488355328 ∧
                              (L0 ((y1.1 ++ [(mTrim (a0.extract y1.2.1.toNat (if (a0.size : Int) < y1.2.2.2 then (a0.size : Int) else y1.2.2.2).toNat))]), (IntKind.i64.wrap (y1.2.2.2 + 1)), y1.2.2.1, (IntKind.i64.wrap (y1.2.2.2 + 1))))) ∧
                            (¬ ((mTrim (a0.extract y1.2.1.toNat (if (a0.size : Int) < y1.2.2.2 then (a0.size : Int) else y1.2.2.2).toNat)) ≠ (lit [])) →
                              (L0 (y1.1, (IntKind.i64.wrap (y1.2.2.2 + 1)), y1.2.2.1, (IntKind.i64.wrap (y1.2.2.2 + 1)))))) ∧
                          (¬ (¬ (y1.2.2.1 = true)) →
                            (L0 (y1.1, y1.2.1, y1.2.2.1, (IntKind.i64.wrap (y1.2.2.2 + 1)))))) ∧
                        (¬ ((bt a0 y1.2.2.2) = 44) →
                          (L0 (y1.1, y1.2.1, y1.2.2.1, (IntKind.i64.wrap (y1.2.2.2 + 1)))))))) ∧
                  (¬ (y1.2.2.2 < (a0.size : Int)) →
                    ((a0.size : Int) ≤ y1.2.2.2 →
                      0 ≤ y1.2.1 ∧
                      y1.2.1 ≤ (if (a0.size : Int) < y1.2.2.2 then (a0.size : Int) else y1.2.2.2) ∧
                      (if (a0.size : Int) < y1.2.2.2 then (a0.size : Int) else y1.2.2.2) ≤ (a0.size : Int) ∧
                      pTrim (a0.extract y1.2.1.toNat (if (a0.size : Int) < y1.2.2.2 then (a0.size : Int) else y1.2.2.2).toNat) ∧
                      ((mTrim (a0.extract y1.2.1.toNat (if (a0.size : Int) < y1.2.2.2 then (a0.size : Int) else y1.2.2.2).toNat)) ≠ (lit []) →
                        (y1.1.length + [(mTrim (a0.extract y1.2.1.toNat (if (a0.size : Int) < y1.2.2.2 then (a0.size : Int) else y1.2.2.2).toNat))].length) * 16 ≤ 140737488355328 ∧
                        (L0 ((y1.1 ++ [(mTrim (a0.extract y1.2.1.toNat (if (a0.size : Int) < y1.2.2.2 then (a0.size : Int) else y1.2.2.2).toNat))]), (IntKind.i64.wrap (y1.2.2.2 + 1)), y1.2.2.1, (IntKind.i64.wrap (y1.2.2.2 + 1))))) ∧
                      (¬ ((mTrim (a0.extract y1.2.1.toNat (if (a0.size : Int) < y1.2.2.2 then (a0.size : Int) else y1.2.2.2).toNat)) ≠ (lit [])) →
                        (L0 (y1.1, (IntKind.i64.wrap (y1.2.2.2 + 1)), y1.2.2.1, (IntKind.i64.wrap (y1.2.2.2 + 1)))))) ∧
                    (¬ ((a0.size : Int) ≤ y1.2.2.2) →
                      0 ≤ y1.2.2.2 ∧
                      y1.2.2.2 < (a0.size : Int) ∧
                      ((bt a0 y1.2.2.2) = 44 →
                        (¬ (y1.2.2.1 = true) →
                          0 ≤ y1.2.1 ∧
                          y1.2.1 ≤ (if (a0.size : Int) < y1.2.2.2 then (a0.size : Int) else y1.2.2.2) ∧
                          (if (a0.size : Int) < y1.2.2.2 then (a0.size : Int) else y1.2.2.2) ≤ (a0.size : Int) ∧
                          pTrim (a0.extract y1.2.1.toNat (if (a0.size : Int) < y1.2.2.2 then (a0.size : Int) else y1.2.2.2).toNat) ∧
                          ((mTrim (a0.extract y1.2.1.toNat (if (a0.size : Int) < y1.2.2.2 then (a0.size : Int) else y1.2.2.2).toNat)) ≠ (lit []) →
                            (y1.1.length + [(mTrim (a0.extract y1.2.1.toNat (if (a0.size : Int) < y1.2.2.2 then (a0.size : Int) else y1.2.2.2).toNat))].length) * 16 ≤ 140737488355328 ∧
                            (L0 ((y1.1 ++ [(mTrim (a0.extract y1.2.1.toNat (if (a0.size : Int) < y1.2.2.2 then (a0.size : Int) else y1.2.2.2).toNat))]), (IntKind.i64.wrap (y1.2.2.2 + 1)), y1.2.2.1, (IntKind.i64.wrap (y1.2.2.2 + 1))))) ∧
                          (¬ ((mTrim (a0.extract y1.2.1.toNat (if (a0.size : Int) < y1.2.2.2 then (a0.size : Int) else y1.2.2.2).toNat)) ≠ (lit [])) →
                            (L0 (y1.1, (IntKind.i64.wrap (y1.2.2.2 + 1)), y1.2.2.1, (IntKind.i64.wrap (y1.2.2.2 + 1)))))) ∧
                        (¬ (¬ (y1.2.2.1 = true)) →
                          (L0 (y1.1, y1.2.1, y1.2.2.1, (IntKind.i64.wrap (y1.2.2.2 + 1)))))) ∧
                      (¬ ((bt a0 y1.2.2.2) = 44) →
                        (L0 (y1.1, y1.2.1, y1.2.2.1, (IntKind.i64.wrap (y1.2.2.2 + 1))))))))) ∧
              (¬ (y1.2.2.2 ≤ (a0.size : Int)) →
                (y1.2.1 < (a0.size : Int) →
                  (y1.2.2.1 = true →
                    0 ≤ y1.2.1 ∧
                    y1.2.1 ≤ (a0.size : Int) ∧
                    pTrim (a0.extract y1.2.1.toNat a0.size) ∧
                    ((mTrim (a0.extract y1.2.1.toNat a0.size)) ≠ (lit []) →
                      (y1.1.length + [(mTrim (a0.extract y1.2.1.toNat a0.size))].length) * 16 ≤ 140737488355328 ∧
                      (Q (y1.1 ++ [(mTrim (a0.extract y1.2.1.toNat a0.size))]))) ∧
                    (¬ ((mTrim (a0.extract y1.2.1.toNat a0.size)) ≠ (lit [])) →
                      (Q y1.1))) ∧
                  (¬ (y1.2.2.1 = true) →
                    (Q y1.1))) ∧
                (¬ (y1.2.1 < (a0.size : Int)) →
                  (Q y1.1)))
            ) →
            (L0 y1)))
      ) →
      (L0 ([], 0, false, 0))))

def s_spec_Storable (a0 : Req) (a1 : Rsp) (Q : (Bool → Prop)) : Prop :=
  (a0.1 ≠ (lit [71, 69, 84]) →
    (Q false)) ∧
  (¬ (a0.1 ≠ (lit [71, 69, 84])) →
    (a1.1 = 304 →
      (Q false)) ∧
    (¬ (a1.1 = 304) →
      pResponseOk a1 ∧
      (¬ ((mResponseOk a1) = true) →
        (Q false)) ∧
      (¬ (¬ ((mResponseOk a1) = true)) →
        pCcHas a0.2.2.1 (lit [110, 111, 45, 115, 116, 111, 114, 101]) ∧
        ((mCcHas a0.2.2.1 (lit [110, 111, 45, 115, 116, 111, 114, 101])) = true →
          (Q false)) ∧
        (¬ ((mCcHas a0.2.2.1 (lit [110, 111, 45, 115, 116, 111, 114, 101])) = true) →
          pCcHas a1.2.1 (lit [110, 111, 45, 115, 116, 111, 114, 101]) ∧
          ((mCcHas a1.2.1 (lit [110, 111, 45, 115, 116, 111, 114, 101])) = true →
            (Q false)) ∧
          (¬ ((mCcHas a1.2.1 (lit [110, 111, 45, 115, 116, 111, 114, 101])) = true) →
            pCcHas a1.2.1 (lit [112, 114, 105, 118, 97, 116, 101]) ∧
            ((mCcHas a1.2.1 (lit [112, 114, 105, 118, 97, 116, 101])) = true →
              (Q false)) ∧
            (¬ ((mCcHas a1.2.1 (lit [112, 114, 105, 118, 97, 116, 101])) = true) →
              pFieldGet a1.2.1 (lit [118, 97, 114, 121]) ∧
              pSplitList (mFieldGet a1.2.1 (lit [118, 97, 114, 121])).1 ∧
              (∀ L0 : (Int → Prop),
                ((
                    (∀ y1 : Int,
                      ((
                          (y1 < ((mSplitList (mFieldGet a1.2.1 (lit [118, 97, 114, 121])).1).length : Int) →
                            0 ≤ y1 ∧
                            y1 < ((mSplitList (mFieldGet a1.2.1 (lit [118, 97, 114, 121])).1).length : Int) ∧
                            ((rx (mSplitList (mFieldGet a1.2.1 (lit [118, 97, 114, 121])).1) y1) = (lit [42]) →
                              (Q false)) ∧
                            (¬ ((rx (mSplitList (mFieldGet a1.2.1 (lit [118, 97, 114, 121])).1) y1) = (lit [42])) →
                              (L0 (IntKind.i64.wrap (y1 + 1))))) ∧
                          (¬ (y1 < ((mSplitList (mFieldGet a1.2.1 (lit [118, 97, 114, 121])).1).length : Int)) →
                            pFieldGet a0.2.2.1 (lit [97, 117, 116, 104, 111, 114, 105, 122, 97, 116, 105, 111, 110]) ∧
                            ((mFieldGet a0.2.2.1 (lit [97, 117, 116, 104, 111, 114, 105, 122, 97, 116, 105, 111, 110])).2 = true →
                              pCcHas a1.2.1 (lit [112, 117, 98, 108, 105, 99]) ∧
                              (¬ ((mCcHas a1.2.1 (lit [112, 117, 98, 108, 105, 99])) = true) →
                                pCcHas a1.2.1 (lit [115, 45, 109, 97, 120, 97, 103, 101]) ∧
                                (¬ ((mCcHas a1.2.1 (lit [115, 45, 109, 97, 120, 97, 103, 101])) = true) →
                                  pCcHas a1.2.1 (lit [109, 117, 115, 116, 45, 114, 101, 118, 97, 108, 105, 100, 97, 116, 101]) ∧
                                  (¬ ((mCcHas a1.2.1 (lit [109, 117, 115, 116, 45, 114, 101, 118, 97, 108, 105, 100, 97, 116, 101])) = true) →
                                    (Q false)) ∧
                                  (¬ (¬ ((mCcHas a1.2.1 (lit [109, 117, 115, 116, 45, 114, 101, 118, 97, 108, 105, 100, 97, 116, 101])) = true)) →
                                    pFieldGet a1.2.1 (lit [101, 120, 112, 105, 114, 101, 115]) ∧
                                    pCcHas a1.2.1 (lit [112, 117, 98, 108, 105, 99]) ∧
                                    ((mCcHas a1.2.1 (lit [112, 117, 98, 108, 105, 99])) = true →
                                      (Q true)) ∧
                                    (¬ ((mCcHas a1.2.1 (lit [112, 117, 98, 108, 105, 99])) = true) →
                                      pCcHas a1.2.1 (lit [109, 97, 120, 45, 97, 103, 101]) ∧
                                      ((mCcHas a1.2.1 (lit [109, 97, 120, 45, 97, 103, 101])) = true →
                                        (Q true)) ∧
                                      (¬ ((mCcHas a1.2.1 (lit [109, 97, 120, 45, 97, 103, 101])) = true) →
                                        pCcHas a1.2.1 (lit [115, 45, 109, 97, 120, 97, 103, 101]) ∧
                                        ((mCcHas a1.2.1 (lit [115, 45, 109, 97, 120, 97, 103, 101])) = true →
                                          (Q true)) ∧
                                        (¬ ((mCcHas a1.2.1 (lit [115, 45, 109, 97, 120, 97, 103, 101])) = true) →
                                          ((mFieldGet a1.2.1 (lit [101, 120, 112, 105, 114, 101, 115])).2 = true →
                                            (Q true)) ∧
                                          (¬ ((mFieldGet a1.2.1 (lit [101, 120, 112, 105, 114, 101, 115])).2 = true) →
                                            pHeuristic a1.1 ∧
                                            (Q (mHeuristic a1.1)))))))) ∧
                                (¬ (¬ ((mCcHas a1.2.1 (lit [115, 45, 109, 97, 120, 97, 103, 101])) = true)) →
                                  pFieldGet a1.2.1 (lit [101, 120, 112, 105, 114, 101, 115]) ∧
                                  pCcHas a1.2.1 (lit [112, 117, 98, 108, 105, 99]) ∧
                                  ((mCcHas a1.2.1 (lit [112, 117, 98, 108, 105, 99])) = true →
                                    (Q true)) ∧
                                  (¬ ((mCcHas a1.2.1 (lit [112, 117, 98, 108, 105, 99])) = true) →
                                    pCcHas a1.2.1 (lit [109, 97, 120, 45, 97, 103, 101]) ∧
                                    ((mCcHas a1.2.1 (lit [109, 97, 120, 45, 97, 103, 101])) = true →
                                      (Q true)) ∧
                                    (¬ ((mCcHas a1.2.1 (lit [109, 97, 120, 45, 97, 103, 101])) = true) →
                                      pCcHas a1.2.1 (lit [115, 45, 109, 97, 120, 97, 103, 101]) ∧
                                      ((mCcHas a1.2.1 (lit [115, 45, 109, 97, 120, 97, 103, 101])) = true →
                                        (Q true)) ∧
                                      (¬ ((mCcHas a1.2.1 (lit [115, 45, 109, 97, 120, 97, 103, 101])) = true) →
                                        ((mFieldGet a1.2.1 (lit [101, 120, 112, 105, 114, 101, 115])).2 = true →
                                          (Q true)) ∧
                                        (¬ ((mFieldGet a1.2.1 (lit [101, 120, 112, 105, 114, 101, 115])).2 = true) →
                                          pHeuristic a1.1 ∧
                                          (Q (mHeuristic a1.1)))))))) ∧
                              (¬ (¬ ((mCcHas a1.2.1 (lit [112, 117, 98, 108, 105, 99])) = true)) →
                                pFieldGet a1.2.1 (lit [101, 120, 112, 105, 114, 101, 115]) ∧
                                pCcHas a1.2.1 (lit [112, 117, 98, 108, 105, 99]) ∧
                                ((mCcHas a1.2.1 (lit [112, 117, 98, 108, 105, 99])) = true →
                                  (Q true)) ∧
                                (¬ ((mCcHas a1.2.1 (lit [112, 117, 98, 108, 105, 99])) = true) →
                                  pCcHas a1.2.1 (lit [109, 97, 120, 45, 97, 103, 101]) ∧
                                  ((mCcHas a1.2.1 (lit [109, 97, 120, 45, 97, 103, 101])) = true →
                                    (Q true)) ∧
                                  (¬ ((mCcHas a1.2.1 (lit [109, 97, 120, 45, 97, 103, 101])) = true) →
                                    pCcHas a1.2.1 (lit [115, 45, 109, 97, 120, 97, 103, 101]) ∧
                                    ((mCcHas a1.2.1 (lit [115, 45, 109, 97, 120, 97, 103, 101])) = true →
                                      (Q true)) ∧
                                    (¬ ((mCcHas a1.2.1 (lit [115, 45, 109, 97, 120, 97, 103, 101])) = true) →
                                      ((mFieldGet a1.2.1 (lit [101, 120, 112, 105, 114, 101, 115])).2 = true →
                                        (Q true)) ∧
                                      (¬ ((mFieldGet a1.2.1 (lit [101, 120, 112, 105, 114, 101, 115])).2 = true) →
                                        pHeuristic a1.1 ∧
                                        (Q (mHeuristic a1.1)))))))) ∧
                            (¬ ((mFieldGet a0.2.2.1 (lit [97, 117, 116, 104, 111, 114, 105, 122, 97, 116, 105, 111, 110])).2 = true) →
                              pFieldGet a1.2.1 (lit [101, 120, 112, 105, 114, 101, 115]) ∧
                              pCcHas a1.2.1 (lit [112, 117, 98, 108, 105, 99]) ∧
                              ((mCcHas a1.2.1 (lit [112, 117, 98, 108, 105, 99])) = true →
                                (Q true)) ∧
                              (¬ ((mCcHas a1.2.1 (lit [112, 117, 98, 108, 105, 99])) = true) →
                                pCcHas a1.2.1 (lit [109, 97, 120, 45, 97, 103, 101]) ∧
                                ((mCcHas a1.2.1 (lit [109, 97, 120, 45, 97, 103, 101])) = true →
                                  (Q true)) ∧
                                (¬ ((mCcHas a1.2.1 (lit [109, 97, 120, 45, 97, 103, 101])) = true) →
                                  pCcHas a1.2.1 (lit [115, 45, 109, 97, 120, 97, 103, 101]) ∧
                                  ((mCcHas a1.2.1 (lit [115, 45, 109, 97, 120, 97, 103, 101])) = true →
                                    (Q true)) ∧
                                  (¬ ((mCcHas a1.2.1 (lit [115, 45, 109, 97, 120, 97, 103, 101])) = true) →
                                    ((mFieldGet a1.2.1 (lit [101, 120, 112, 105, 114, 101, 115])).2 = true →
                                      (Q true)) ∧
                                    (¬ ((mFieldGet a1.2.1 (lit [101, 120, 112, 105, 114, 101, 115])).2 = true) →
                                      pHeuristic a1.1 ∧
                                      (Q (mHeuristic a1.1))))))))
                        ) →
                        (L0 y1)))
                  ) →
                  (L0 0)))))))))

def s_spec_StoredOk (a0 : Sto) (Q : (Bool → Prop)) : Prop :=
  pUriOk a0.1 ∧
  ((mUriOk a0.1) = true →
    pResponseOk (a0.2.2.1, a0.2.2.2.1, a0.2.2.2.2.1) ∧
    ((mResponseOk (a0.2.2.1, a0.2.2.2.1, a0.2.2.2.2.1)) = true →
      pIn a0.2.2.2.2.2.1 0 2000000000 ∧
      ((mIn a0.2.2.2.2.2.1 0 2000000000) = true →
        pIn a0.2.2.2.2.2.2 a0.2.2.2.2.2.1 2000000000 ∧
        ((mIn a0.2.2.2.2.2.2 a0.2.2.2.2.2.1 2000000000) = true →
          (Q (decide ((a0.2.1.length : Int) ≤ 12)))) ∧
        (¬ ((mIn a0.2.2.2.2.2.2 a0.2.2.2.2.2.1 2000000000) = true) →
          (Q false))) ∧
      (¬ ((mIn a0.2.2.2.2.2.1 0 2000000000) = true) →
        (Q false))) ∧
    (¬ ((mResponseOk (a0.2.2.1, a0.2.2.2.1, a0.2.2.2.2.1)) = true) →
      (Q false))) ∧
  (¬ ((mUriOk a0.1) = true) →
    (Q false))

def s_spec_TagOf (a0 : Int) (Q : (S → Prop)) : Prop :=
  pIn a0 1 100000 ∧
  (¬ ((mIn a0 1 100000) = true) →
    (Q (lit []))) ∧
  (¬ (¬ ((mIn a0 1 100000) = true)) →
    pDec a0 ∧
    (lit [34, 118]).size + (mDec a0).size ≤ 9223372036854775807 ∧
    ((lit [34, 118]) ++ (mDec a0)).size + (lit [34]).size ≤ 9223372036854775807 ∧
    (Q (((lit [34, 118]) ++ (mDec a0)) ++ (lit [34]))))

def s_spec_Trim (a0 : S) (Q : (S → Prop)) : Prop :=
  (∀ L0 : (S → Prop),
    ((
        (∀ y1 : S,
          ((
              (0 < (y1.size : Int) →
                (0 : Int) ≤ 0 ∧
                0 < (y1.size : Int) ∧
                pBlank (bt y1 0) ∧
                ((mBlank (bt y1 0)) = true →
                  (0 : Int) ≤ 1 ∧
                  1 ≤ (y1.size : Int) ∧
                  (L0 (y1.extract ((1 : Int).toNat) y1.size))) ∧
                (¬ ((mBlank (bt y1 0)) = true) →
                  (∀ L2 : (S → Prop),
                    ((
                        (∀ y3 : S,
                          ((
                              (0 < (y3.size : Int) →
                                0 ≤ (IntKind.i64.wrap ((y3.size : Int) - 1)) ∧
                                (IntKind.i64.wrap ((y3.size : Int) - 1)) < (y3.size : Int) ∧
                                pBlank (bt y3 (IntKind.i64.wrap ((y3.size : Int) - 1))) ∧
                                ((mBlank (bt y3 (IntKind.i64.wrap ((y3.size : Int) - 1)))) = true →
                                  0 ≤ (IntKind.i64.wrap ((y3.size : Int) - 1)) ∧
                                  (IntKind.i64.wrap ((y3.size : Int) - 1)) ≤ (y3.size : Int) ∧
                                  (L2 (y3.extract 0 (IntKind.i64.wrap ((y3.size : Int) - 1)).toNat))) ∧
                                (¬ ((mBlank (bt y3 (IntKind.i64.wrap ((y3.size : Int) - 1)))) = true) →
                                  (Q y3))) ∧
                              (¬ (0 < (y3.size : Int)) →
                                (Q y3))
                            ) →
                            (L2 y3)))
                      ) →
                      (L2 y1))))) ∧
              (¬ (0 < (y1.size : Int)) →
                (∀ L4 : (S → Prop),
                  ((
                      (∀ y5 : S,
                        ((
                            (0 < (y5.size : Int) →
                              0 ≤ (IntKind.i64.wrap ((y5.size : Int) - 1)) ∧
                              (IntKind.i64.wrap ((y5.size : Int) - 1)) < (y5.size : Int) ∧
                              pBlank (bt y5 (IntKind.i64.wrap ((y5.size : Int) - 1))) ∧
                              ((mBlank (bt y5 (IntKind.i64.wrap ((y5.size : Int) - 1)))) = true →
                                0 ≤ (IntKind.i64.wrap ((y5.size : Int) - 1)) ∧
                                (IntKind.i64.wrap ((y5.size : Int) - 1)) ≤ (y5.size : Int) ∧
                                (L4 (y5.extract 0 (IntKind.i64.wrap ((y5.size : Int) - 1)).toNat))) ∧
                              (¬ ((mBlank (bt y5 (IntKind.i64.wrap ((y5.size : Int) - 1)))) = true) →
                                (Q y5))) ∧
                            (¬ (0 < (y5.size : Int)) →
                              (Q y5))
                          ) →
                          (L4 y5)))
                    ) →
                    (L4 y1))))
            ) →
            (L0 y1)))
      ) →
      (L0 a0)))

def s_spec_UriOk (a0 : S) (Q : (Bool → Prop)) : Prop :=
  (∀ L0 : (Int → Prop),
    ((
        (∀ y1 : Int,
          ((
              (y1 < (a0.size : Int) →
                0 ≤ y1 ∧
                y1 < (a0.size : Int) ∧
                ((bt a0 y1) ≤ 32 →
                  (Q false)) ∧
                (¬ ((bt a0 y1) ≤ 32) →
                  0 ≤ y1 ∧
                  y1 < (a0.size : Int) ∧
                  (127 ≤ (bt a0 y1) →
                    (Q false)) ∧
                  (¬ (127 ≤ (bt a0 y1)) →
                    (L0 (IntKind.i64.wrap (y1 + 1)))))) ∧
              (¬ (y1 < (a0.size : Int)) →
                pIn (a0.size : Int) 1 20 ∧
                ((mIn (a0.size : Int) 1 20) = true →
                  (0 : Int) ≤ 0 ∧
                  0 < (a0.size : Int) ∧
                  (Q (decide ((bt a0 0) = 47)))) ∧
                (¬ ((mIn (a0.size : Int) 1 20) = true) →
                  (Q false)))
            ) →
            (L0 y1)))
      ) →
      (L0 0)))

def s_spec_VaryFits (a0 : Req) (a1 : Rsp) (a2 : (List Fld)) (Q : (Bool → Prop)) : Prop :=
  pPicked a0 a1 ∧
  pSameFields (mPicked a0 a1) a2 ∧
  (Q (mSameFields (mPicked a0 a1) a2))

def s_spec_VaryNames (a0 : Rsp) (Q : ((List S) → Prop)) : Prop :=
  pFieldGet a0.2.1 (lit [118, 97, 114, 121]) ∧
  pSplitList (mFieldGet a0.2.1 (lit [118, 97, 114, 121])).1 ∧
  (∀ L0 : (((List S) × Int) → Prop),
    ((
        (∀ y1 : ((List S) × Int),
          ((
              (y1.2 < ((mSplitList (mFieldGet a0.2.1 (lit [118, 97, 114, 121])).1).length : Int) →
                0 ≤ y1.2 ∧
                y1.2 < ((mSplitList (mFieldGet a0.2.1 (lit [118, 97, 114, 121])).1).length : Int) ∧
                pLower (rx (mSplitList (mFieldGet a0.2.1 (lit [118, 97, 114, 121])).1) y1.2) ∧
                (∀ L2 : ((Bool × Int) → Prop),
                  ((
                      (∀ y3 : (Bool × Int),
                        ((
                            (y3.2 < (y1.1.length : Int) →
                              (y3.1 = true →
                                (L2 (true, (IntKind.i64.wrap (y3.2 + 1))))) ∧
                              (¬ (y3.1 = true) →
                                0 ≤ y3.2 ∧
                                y3.2 < (y1.1.length : Int) ∧
                                (L2 ((decide ((rx y1.1 y3.2) = (mLower (rx (mSplitList (mFieldGet a0.2.1 (lit [118, 97, 114, 121])).1) y1.2)))), (IntKind.i64.wrap (y3.2 + 1)))))) ∧
                            (¬ (y3.2 < (y1.1.length : Int)) →
                              (¬ (y3.1 = true) →
                                (y1.1.length + [(mLower (rx (mSplitList (mFieldGet a0.2.1 (lit [118, 97, 114, 121])).1) y1.2))].length) * 16 ≤ 140737488355328 ∧
                                (L0 ((y1.1 ++ [(mLower (rx (mSplitList (mFieldGet a0.2.1 (lit [118, 97, 114, 121])).1) y1.2))]), (IntKind.i64.wrap (y1.2 + 1))))) ∧
                              (¬ (¬ (y3.1 = true)) →
                                (L0 (y1.1, (IntKind.i64.wrap (y1.2 + 1))))))
                          ) →
                          (L2 y3)))
                    ) →
                    (L2 (false, 0))))) ∧
              (¬ (y1.2 < ((mSplitList (mFieldGet a0.2.1 (lit [118, 97, 114, 121])).1).length : Int)) →
                (Q y1.1))
            ) →
            (L0 y1)))
      ) →
      (L0 ([], 0))))

def s_spec_VersionIn (a0 : Rsp) (Q : (Int → Prop)) : Prop :=
  pFieldGet a0.2.1 (lit [101, 116, 97, 103]) ∧
  (((mFieldGet a0.2.1 (lit [101, 116, 97, 103])).1.size : Int) < 4 →
    (Q 0)) ∧
  (¬ (((mFieldGet a0.2.1 (lit [101, 116, 97, 103])).1.size : Int) < 4) →
    (0 : Int) ≤ 2 ∧
    2 ≤ (IntKind.i64.wrap (((mFieldGet a0.2.1 (lit [101, 116, 97, 103])).1.size : Int) - 1)) ∧
    (IntKind.i64.wrap (((mFieldGet a0.2.1 (lit [101, 116, 97, 103])).1.size : Int) - 1)) ≤ ((mFieldGet a0.2.1 (lit [101, 116, 97, 103])).1.size : Int) ∧
    pReadDec ((mFieldGet a0.2.1 (lit [101, 116, 97, 103])).1.extract ((2 : Int).toNat) (IntKind.i64.wrap (((mFieldGet a0.2.1 (lit [101, 116, 97, 103])).1.size : Int) - 1)).toNat) ∧
    (¬ ((mReadDec ((mFieldGet a0.2.1 (lit [101, 116, 97, 103])).1.extract ((2 : Int).toNat) (IntKind.i64.wrap (((mFieldGet a0.2.1 (lit [101, 116, 97, 103])).1.size : Int) - 1)).toNat)).2 = true) →
      (Q 0)) ∧
    (¬ (¬ ((mReadDec ((mFieldGet a0.2.1 (lit [101, 116, 97, 103])).1.extract ((2 : Int).toNat) (IntKind.i64.wrap (((mFieldGet a0.2.1 (lit [101, 116, 97, 103])).1.size : Int) - 1)).toNat)).2 = true)) →
      pTagOf (mReadDec ((mFieldGet a0.2.1 (lit [101, 116, 97, 103])).1.extract ((2 : Int).toNat) (IntKind.i64.wrap (((mFieldGet a0.2.1 (lit [101, 116, 97, 103])).1.size : Int) - 1)).toNat)).1 ∧
      ((mTagOf (mReadDec ((mFieldGet a0.2.1 (lit [101, 116, 97, 103])).1.extract ((2 : Int).toNat) (IntKind.i64.wrap (((mFieldGet a0.2.1 (lit [101, 116, 97, 103])).1.size : Int) - 1)).toNat)).1) ≠ (mFieldGet a0.2.1 (lit [101, 116, 97, 103])).1 →
        (Q 0)) ∧
      (¬ ((mTagOf (mReadDec ((mFieldGet a0.2.1 (lit [101, 116, 97, 103])).1.extract ((2 : Int).toNat) (IntKind.i64.wrap (((mFieldGet a0.2.1 (lit [101, 116, 97, 103])).1.size : Int) - 1)).toNat)).1) ≠ (mFieldGet a0.2.1 (lit [101, 116, 97, 103])).1) →
        (Q (mReadDec ((mFieldGet a0.2.1 (lit [101, 116, 97, 103])).1.extract ((2 : Int).toNat) (IntKind.i64.wrap (((mFieldGet a0.2.1 (lit [101, 116, 97, 103])).1.size : Int) - 1)).toNat)).1))))

def s_spec_l12Filled (a0 : Shd) (Q : (Int → Prop)) : Prop :=
  (∀ L0 : ((Int × Int) → Prop),
    ((
        (∀ y1 : (Int × Int),
          ((
              (y1.2 < (a0.2.2.1.length : Int) →
                0 ≤ y1.2 ∧
                y1.2 < (a0.2.2.1.length : Int) ∧
                (L0 ((IntKind.i64.wrap (y1.1 + ((rx a0.2.2.1 y1.2).2.2.2.2.1.size : Int))), (IntKind.i64.wrap (y1.2 + 1))))) ∧
              (¬ (y1.2 < (a0.2.2.1.length : Int)) →
                (Q y1.1))
            ) →
            (L0 y1)))
      ) →
      (L0 (0, 0))))

def s_spec_l12Same (a0 : Sto) (a1 : Sto) (Q : (Bool → Prop)) : Prop :=
  (a0.1 = a1.1 →
    pSameFields a0.2.1 a1.2.1 ∧
    (Q (mSameFields a0.2.1 a1.2.1))) ∧
  (¬ (a0.1 = a1.1) →
    (Q false))

def s_spec_l16Own (a0 : Req) (Q : (Bool → Prop)) : Prop :=
  pFieldGet a0.2.2.1 (lit [97, 117, 116, 104, 111, 114, 105, 122, 97, 116, 105, 111, 110]) ∧
  pFieldGet a0.2.2.1 (lit [105, 102, 45, 110, 111, 110, 101, 45, 109, 97, 116, 99, 104]) ∧
  pFieldGet a0.2.2.1 (lit [105, 102, 45, 109, 111, 100, 105, 102, 105, 101, 100, 45, 115, 105, 110, 99, 101]) ∧
  (a0.1 ≠ (lit [71, 69, 84]) →
    (Q true)) ∧
  (¬ (a0.1 ≠ (lit [71, 69, 84])) →
    ((mFieldGet a0.2.2.1 (lit [97, 117, 116, 104, 111, 114, 105, 122, 97, 116, 105, 111, 110])).2 = true →
      (Q true)) ∧
    (¬ ((mFieldGet a0.2.2.1 (lit [97, 117, 116, 104, 111, 114, 105, 122, 97, 116, 105, 111, 110])).2 = true) →
      ((mFieldGet a0.2.2.1 (lit [105, 102, 45, 110, 111, 110, 101, 45, 109, 97, 116, 99, 104])).2 = true →
        (Q true)) ∧
      (¬ ((mFieldGet a0.2.2.1 (lit [105, 102, 45, 110, 111, 110, 101, 45, 109, 97, 116, 99, 104])).2 = true) →
        ((mFieldGet a0.2.2.1 (lit [105, 102, 45, 109, 111, 100, 105, 102, 105, 101, 100, 45, 115, 105, 110, 99, 101])).2 = true →
          (Q true)) ∧
        (¬ ((mFieldGet a0.2.2.1 (lit [105, 102, 45, 109, 111, 100, 105, 102, 105, 101, 100, 45, 115, 105, 110, 99, 101])).2 = true) →
          pCcHas a0.2.2.1 (lit [110, 111, 45, 115, 116, 111, 114, 101]) ∧
          ((mCcHas a0.2.2.1 (lit [110, 111, 45, 115, 116, 111, 114, 101])) = true →
            (Q true)) ∧
          (¬ ((mCcHas a0.2.2.1 (lit [110, 111, 45, 115, 116, 111, 114, 101])) = true) →
            pCcHas a0.2.2.1 (lit [110, 111, 45, 99, 97, 99, 104, 101]) ∧
            (Q (mCcHas a0.2.2.1 (lit [110, 111, 45, 99, 97, 99, 104, 101]))))))))

def s_spec_l1In (a0 : Int) (a1 : Int) (a2 : Int) (Q : (Bool → Prop)) : Prop :=
  (a1 ≤ a0 →
    (Q (decide (a0 ≤ a2)))) ∧
  (¬ (a1 ≤ a0) →
    (Q false))

def s_spec_l2Blank (a0 : Int) (Q : (Bool → Prop)) : Prop :=
  (a0 = 32 →
    (Q true)) ∧
  (¬ (a0 = 32) →
    (Q (decide (a0 = 9))))

def s_spec_l2Token (a0 : Int) (Q : (Bool → Prop)) : Prop :=
  (97 ≤ a0 →
    (a0 ≤ 122 →
      (Q true)) ∧
    (¬ (a0 ≤ 122) →
      (65 ≤ a0 →
        (a0 ≤ 90 →
          (Q true)) ∧
        (¬ (a0 ≤ 90) →
          (48 ≤ a0 →
            (a0 ≤ 57 →
              (Q true)) ∧
            (¬ (a0 ≤ 57) →
              (a0 = 33 →
                (Q true)) ∧
              (¬ (a0 = 33) →
                (a0 = 35 →
                  (Q true)) ∧
                (¬ (a0 = 35) →
                  (a0 = 36 →
                    (Q true)) ∧
                  (¬ (a0 = 36) →
                    (a0 = 37 →
                      (Q true)) ∧
                    (¬ (a0 = 37) →
                      (a0 = 38 →
                        (Q true)) ∧
                      (¬ (a0 = 38) →
                        (a0 = 39 →
                          (Q true)) ∧
                        (¬ (a0 = 39) →
                          (a0 = 42 →
                            (Q true)) ∧
                          (¬ (a0 = 42) →
                            (a0 = 43 →
                              (Q true)) ∧
                            (¬ (a0 = 43) →
                              (a0 = 45 →
                                (Q true)) ∧
                              (¬ (a0 = 45) →
                                (a0 = 46 →
                                  (Q true)) ∧
                                (¬ (a0 = 46) →
                                  (a0 = 94 →
                                    (Q true)) ∧
                                  (¬ (a0 = 94) →
                                    (a0 = 95 →
                                      (Q true)) ∧
                                    (¬ (a0 = 95) →
                                      (a0 = 96 →
                                        (Q true)) ∧
                                      (¬ (a0 = 96) →
                                        (a0 = 124 →
                                          (Q true)) ∧
                                        (¬ (a0 = 124) →
                                          (Q (decide (a0 = 126))))))))))))))))))) ∧
          (¬ (48 ≤ a0) →
            (a0 = 33 →
              (Q true)) ∧
            (¬ (a0 = 33) →
              (a0 = 35 →
                (Q true)) ∧
              (¬ (a0 = 35) →
                (a0 = 36 →
                  (Q true)) ∧
                (¬ (a0 = 36) →
                  (a0 = 37 →
                    (Q true)) ∧
                  (¬ (a0 = 37) →
                    (a0 = 38 →
                      (Q true)) ∧
                    (¬ (a0 = 38) →
                      (a0 = 39 →
                        (Q true)) ∧
                      (¬ (a0 = 39) →
                        (a0 = 42 →
                          (Q true)) ∧
                        (¬ (a0 = 42) →
                          (a0 = 43 →
                            (Q true)) ∧
                          (¬ (a0 = 43) →
                            (a0 = 45 →
                              (Q true)) ∧
                            (¬ (a0 = 45) →
                              (a0 = 46 →
                                (Q true)) ∧
                              (¬ (a0 = 46) →
                                (a0 = 94 →
                                  (Q true)) ∧
                                (¬ (a0 = 94) →
                                  (a0 = 95 →
                                    (Q true)) ∧
                                  (¬ (a0 = 95) →
                                    (a0 = 96 →
                                      (Q true)) ∧
                                    (¬ (a0 = 96) →
                                      (a0 = 124 →
                                        (Q true)) ∧
                                      (¬ (a0 = 124) →
                                        (Q (decide (a0 = 126)))))))))))))))))))) ∧
      (¬ (65 ≤ a0) →
        (48 ≤ a0 →
          (a0 ≤ 57 →
            (Q true)) ∧
          (¬ (a0 ≤ 57) →
            (a0 = 33 →
              (Q true)) ∧
            (¬ (a0 = 33) →
              (a0 = 35 →
                (Q true)) ∧
              (¬ (a0 = 35) →
                (a0 = 36 →
                  (Q true)) ∧
                (¬ (a0 = 36) →
                  (a0 = 37 →
                    (Q true)) ∧
                  (¬ (a0 = 37) →
                    (a0 = 38 →
                      (Q true)) ∧
                    (¬ (a0 = 38) →
                      (a0 = 39 →
                        (Q true)) ∧
                      (¬ (a0 = 39) →
                        (a0 = 42 →
                          (Q true)) ∧
                        (¬ (a0 = 42) →
                          (a0 = 43 →
                            (Q true)) ∧
                          (¬ (a0 = 43) →
                            (a0 = 45 →
                              (Q true)) ∧
                            (¬ (a0 = 45) →
                              (a0 = 46 →
                                (Q true)) ∧
                              (¬ (a0 = 46) →
                                (a0 = 94 →
                                  (Q true)) ∧
                                (¬ (a0 = 94) →
                                  (a0 = 95 →
                                    (Q true)) ∧
                                  (¬ (a0 = 95) →
                                    (a0 = 96 →
                                      (Q true)) ∧
                                    (¬ (a0 = 96) →
                                      (a0 = 124 →
                                        (Q true)) ∧
                                      (¬ (a0 = 124) →
                                        (Q (decide (a0 = 126))))))))))))))))))) ∧
        (¬ (48 ≤ a0) →
          (a0 = 33 →
            (Q true)) ∧
          (¬ (a0 = 33) →
            (a0 = 35 →
              (Q true)) ∧
            (¬ (a0 = 35) →
              (a0 = 36 →
                (Q true)) ∧
              (¬ (a0 = 36) →
                (a0 = 37 →
                  (Q true)) ∧
                (¬ (a0 = 37) →
                  (a0 = 38 →
                    (Q true)) ∧
                  (¬ (a0 = 38) →
                    (a0 = 39 →
                      (Q true)) ∧
                    (¬ (a0 = 39) →
                      (a0 = 42 →
                        (Q true)) ∧
                      (¬ (a0 = 42) →
                        (a0 = 43 →
                          (Q true)) ∧
                        (¬ (a0 = 43) →
                          (a0 = 45 →
                            (Q true)) ∧
                          (¬ (a0 = 45) →
                            (a0 = 46 →
                              (Q true)) ∧
                            (¬ (a0 = 46) →
                              (a0 = 94 →
                                (Q true)) ∧
                              (¬ (a0 = 94) →
                                (a0 = 95 →
                                  (Q true)) ∧
                                (¬ (a0 = 95) →
                                  (a0 = 96 →
                                    (Q true)) ∧
                                  (¬ (a0 = 96) →
                                    (a0 = 124 →
                                      (Q true)) ∧
                                    (¬ (a0 = 124) →
                                      (Q (decide (a0 = 126))))))))))))))))))))) ∧
  (¬ (97 ≤ a0) →
    (65 ≤ a0 →
      (a0 ≤ 90 →
        (Q true)) ∧
      (¬ (a0 ≤ 90) →
        (48 ≤ a0 →
          (a0 ≤ 57 →
            (Q true)) ∧
          (¬ (a0 ≤ 57) →
            (a0 = 33 →
              (Q true)) ∧
            (¬ (a0 = 33) →
              (a0 = 35 →
                (Q true)) ∧
              (¬ (a0 = 35) →
                (a0 = 36 →
                  (Q true)) ∧
                (¬ (a0 = 36) →
                  (a0 = 37 →
                    (Q true)) ∧
                  (¬ (a0 = 37) →
                    (a0 = 38 →
                      (Q true)) ∧
                    (¬ (a0 = 38) →
                      (a0 = 39 →
                        (Q true)) ∧
                      (¬ (a0 = 39) →
                        (a0 = 42 →
                          (Q true)) ∧
                        (¬ (a0 = 42) →
                          (a0 = 43 →
                            (Q true)) ∧
                          (¬ (a0 = 43) →
                            (a0 = 45 →
                              (Q true)) ∧
                            (¬ (a0 = 45) →
                              (a0 = 46 →
                                (Q true)) ∧
                              (¬ (a0 = 46) →
                                (a0 = 94 →
                                  (Q true)) ∧
                                (¬ (a0 = 94) →
                                  (a0 = 95 →
                                    (Q true)) ∧
                                  (¬ (a0 = 95) →
                                    (a0 = 96 →
                                      (Q true)) ∧
                                    (¬ (a0 = 96) →
                                      (a0 = 124 →
                                        (Q true)) ∧
                                      (¬ (a0 = 124) →
                                        (Q (decide (a0 = 126))))))))))))))))))) ∧
        (¬ (48 ≤ a0) →
          (a0 = 33 →
            (Q true)) ∧
          (¬ (a0 = 33) →
            (a0 = 35 →
              (Q true)) ∧
            (¬ (a0 = 35) →
              (a0 = 36 →
                (Q true)) ∧
              (¬ (a0 = 36) →
                (a0 = 37 →
                  (Q true)) ∧
                (¬ (a0 = 37) →
                  (a0 = 38 →
                    (Q true)) ∧
                  (¬ (a0 = 38) →
                    (a0 = 39 →
                      (Q true)) ∧
                    (¬ (a0 = 39) →
                      (a0 = 42 →
                        (Q true)) ∧
                      (¬ (a0 = 42) →
                        (a0 = 43 →
                          (Q true)) ∧
                        (¬ (a0 = 43) →
                          (a0 = 45 →
                            (Q true)) ∧
                          (¬ (a0 = 45) →
                            (a0 = 46 →
                              (Q true)) ∧
                            (¬ (a0 = 46) →
                              (a0 = 94 →
                                (Q true)) ∧
                              (¬ (a0 = 94) →
                                (a0 = 95 →
                                  (Q true)) ∧
                                (¬ (a0 = 95) →
                                  (a0 = 96 →
                                    (Q true)) ∧
                                  (¬ (a0 = 96) →
                                    (a0 = 124 →
                                      (Q true)) ∧
                                    (¬ (a0 = 124) →
                                      (Q (decide (a0 = 126)))))))))))))))))))) ∧
    (¬ (65 ≤ a0) →
      (48 ≤ a0 →
        (a0 ≤ 57 →
          (Q true)) ∧
        (¬ (a0 ≤ 57) →
          (a0 = 33 →
            (Q true)) ∧
          (¬ (a0 = 33) →
            (a0 = 35 →
              (Q true)) ∧
            (¬ (a0 = 35) →
              (a0 = 36 →
                (Q true)) ∧
              (¬ (a0 = 36) →
                (a0 = 37 →
                  (Q true)) ∧
                (¬ (a0 = 37) →
                  (a0 = 38 →
                    (Q true)) ∧
                  (¬ (a0 = 38) →
                    (a0 = 39 →
                      (Q true)) ∧
                    (¬ (a0 = 39) →
                      (a0 = 42 →
                        (Q true)) ∧
                      (¬ (a0 = 42) →
                        (a0 = 43 →
                          (Q true)) ∧
                        (¬ (a0 = 43) →
                          (a0 = 45 →
                            (Q true)) ∧
                          (¬ (a0 = 45) →
                            (a0 = 46 →
                              (Q true)) ∧
                            (¬ (a0 = 46) →
                              (a0 = 94 →
                                (Q true)) ∧
                              (¬ (a0 = 94) →
                                (a0 = 95 →
                                  (Q true)) ∧
                                (¬ (a0 = 95) →
                                  (a0 = 96 →
                                    (Q true)) ∧
                                  (¬ (a0 = 96) →
                                    (a0 = 124 →
                                      (Q true)) ∧
                                    (¬ (a0 = 124) →
                                      (Q (decide (a0 = 126))))))))))))))))))) ∧
      (¬ (48 ≤ a0) →
        (a0 = 33 →
          (Q true)) ∧
        (¬ (a0 = 33) →
          (a0 = 35 →
            (Q true)) ∧
          (¬ (a0 = 35) →
            (a0 = 36 →
              (Q true)) ∧
            (¬ (a0 = 36) →
              (a0 = 37 →
                (Q true)) ∧
              (¬ (a0 = 37) →
                (a0 = 38 →
                  (Q true)) ∧
                (¬ (a0 = 38) →
                  (a0 = 39 →
                    (Q true)) ∧
                  (¬ (a0 = 39) →
                    (a0 = 42 →
                      (Q true)) ∧
                    (¬ (a0 = 42) →
                      (a0 = 43 →
                        (Q true)) ∧
                      (¬ (a0 = 43) →
                        (a0 = 45 →
                          (Q true)) ∧
                        (¬ (a0 = 45) →
                          (a0 = 46 →
                            (Q true)) ∧
                          (¬ (a0 = 46) →
                            (a0 = 94 →
                              (Q true)) ∧
                            (¬ (a0 = 94) →
                              (a0 = 95 →
                                (Q true)) ∧
                              (¬ (a0 = 95) →
                                (a0 = 96 →
                                  (Q true)) ∧
                                (¬ (a0 = 96) →
                                  (a0 = 124 →
                                    (Q true)) ∧
                                  (¬ (a0 = 124) →
                                    (Q (decide (a0 = 126))))))))))))))))))))

def s_spec_l3FieldOk (a0 : Fld) (Q : (Bool → Prop)) : Prop :=
  pIsTokenText a0.1 ∧
  ((mIsTokenText a0.1) = true →
    pLower a0.1 ∧
    (a0.1 = (mLower a0.1) →
      ((a0.1.size : Int) ≤ 24 →
        pIsValueText a0.2 ∧
        ((mIsValueText a0.2) = true →
          (Q (decide ((a0.2.size : Int) ≤ 60)))) ∧
        (¬ ((mIsValueText a0.2) = true) →
          (Q false))) ∧
      (¬ ((a0.1.size : Int) ≤ 24) →
        (Q false))) ∧
    (¬ (a0.1 = (mLower a0.1)) →
      (Q false))) ∧
  (¬ ((mIsTokenText a0.1) = true) →
    (Q false))

def s_spec_l4Has (a0 : (List Int)) (a1 : Int) (Q : (Bool → Prop)) : Prop :=
  (∀ L0 : (Int → Prop),
    ((
        (∀ y1 : Int,
          ((
              (y1 < (a0.length : Int) →
                0 ≤ y1 ∧
                y1 < (a0.length : Int) ∧
                ((rx a0 y1) = a1 →
                  (Q true)) ∧
                (¬ ((rx a0 y1) = a1) →
                  (L0 (IntKind.i64.wrap (y1 + 1))))) ∧
              (¬ (y1 < (a0.length : Int)) →
                (Q false))
            ) →
            (L0 y1)))
      ) →
      (L0 0)))

def s_spec_l6Plain (a0 : (List Fld)) (Q : (Bool → Prop)) : Prop :=
  pFieldGet a0 (lit [116, 114, 97, 110, 115, 102, 101, 114, 45, 101, 110, 99, 111, 100, 105, 110, 103]) ∧
  pFieldGet a0 (lit [99, 111, 110, 116, 101, 110, 116, 45, 108, 101, 110, 103, 116, 104]) ∧
  (¬ ((mFieldGet a0 (lit [116, 114, 97, 110, 115, 102, 101, 114, 45, 101, 110, 99, 111, 100, 105, 110, 103])).2 = true) →
    (¬ ((mFieldGet a0 (lit [99, 111, 110, 116, 101, 110, 116, 45, 108, 101, 110, 103, 116, 104])).2 = true) →
      ((a0.length : Int) < 12 →
        pFieldsOk a0 ∧
        (Q (mFieldsOk a0))) ∧
      (¬ ((a0.length : Int) < 12) →
        (Q false))) ∧
    (¬ (¬ ((mFieldGet a0 (lit [99, 111, 110, 116, 101, 110, 116, 45, 108, 101, 110, 103, 116, 104])).2 = true)) →
      (Q false))) ∧
  (¬ (¬ ((mFieldGet a0 (lit [116, 114, 97, 110, 115, 102, 101, 114, 45, 101, 110, 99, 111, 100, 105, 110, 103])).2 = true)) →
    (Q false))

def s_spec_l7Unquote (a0 : S) (Q : (S → Prop)) : Prop :=
  (2 ≤ (a0.size : Int) →
    (0 : Int) ≤ 0 ∧
    0 < (a0.size : Int) ∧
    ((bt a0 0) = 34 →
      0 ≤ (IntKind.i64.wrap ((a0.size : Int) - 1)) ∧
      (IntKind.i64.wrap ((a0.size : Int) - 1)) < (a0.size : Int) ∧
      ((bt a0 (IntKind.i64.wrap ((a0.size : Int) - 1))) = 34 →
        (0 : Int) ≤ 1 ∧
        1 ≤ (IntKind.i64.wrap ((a0.size : Int) - 1)) ∧
        (IntKind.i64.wrap ((a0.size : Int) - 1)) ≤ (a0.size : Int) ∧
        (Q (a0.extract ((1 : Int).toNat) (IntKind.i64.wrap ((a0.size : Int) - 1)).toNat))) ∧
      (¬ ((bt a0 (IntKind.i64.wrap ((a0.size : Int) - 1))) = 34) →
        (Q a0))) ∧
    (¬ ((bt a0 0) = 34) →
      (Q a0))) ∧
  (¬ (2 ≤ (a0.size : Int)) →
    (Q a0))

end Go.Ev
end

section
/- Laws of the plain library: what the functions come to is what they compute. First part: small ones. -/
set_option linter.unusedVariables false
namespace Go.Ev

theorem spec_l1In_ok (a0 a1 a2 : Int) : s_spec_l1In a0 a1 a2 (fun r => r = mIn a0 a1 a2) := by
  unfold s_spec_l1In mIn; grind
theorem impl_in_ok (a0 a1 a2 : Int) : s_impl_in a0 a1 a2 (fun r => r = mIn a0 a1 a2) := by
  unfold s_impl_in mIn; grind
theorem spec_l2Blank_ok (a0 : Int) : s_spec_l2Blank a0 (fun r => r = mBlank a0) := by
  unfold s_spec_l2Blank mBlank; grind
theorem impl_bodiless_ok (a0 : Int) : s_impl_bodiless a0 (fun r => r = mBodiless a0) := by
  unfold s_impl_bodiless mBodiless; grind
theorem impl_isLetterOrDigit_ok (a0 : Int) : s_impl_isLetterOrDigit a0 (fun r => r = mIsLetterOrDigit a0) := by
  unfold s_impl_isLetterOrDigit mIsLetterOrDigit
  (repeat' first | apply And.intro | intro _) <;> grind
theorem spec_l2Token_ok (a0 : Int) : s_spec_l2Token a0 (fun r => r = mToken a0) := by
  unfold s_spec_l2Token mToken mIsLetterOrDigit tokenSigns
  simp only [List.any_cons, List.any_nil]
  (repeat' first | apply And.intro | intro _) <;> simp only [*, decide_true, decide_false, Bool.and_true, Bool.true_or, Bool.or_true, Bool.false_or, Bool.or_false, Bool.and_false, Bool.false_and, Bool.true_and]
theorem impl_Heuristic_ok (a0 : Int) : s_impl_Heuristic a0 (fun r => r = mHeuristic a0) := by
  unfold s_impl_Heuristic mHeuristic mL4Has; simp only [List.any_cons, List.any_nil]
  (repeat' first | apply And.intro | intro _) <;> grind
theorem impl_shardSizes_ok (a0 a1 : Int) : s_impl_shardSizes a0 a1 (fun r => r = mShardSizes a0 a1) := by
  unfold s_impl_shardSizes mShardSizes pIn; grind
theorem impl_fieldOk_ok (a0 : Fld) (h : pFieldOk a0) : s_impl_fieldOk a0 (fun r => r = mFieldOk a0) := by
  unfold s_impl_fieldOk mFieldOk; unfold pFieldOk at h; simp only [pIsTokenText, pLower, pIsValueText]; grind
theorem spec_l3FieldOk_ok (a0 : Fld) (h : pFieldOk a0) : s_spec_l3FieldOk a0 (fun r => r = mFieldOk a0) := by
  unfold s_spec_l3FieldOk mFieldOk; unfold pFieldOk at h; simp only [pIsTokenText, pLower, pIsValueText]; grind
theorem impl_FieldsOk_1_ok (a0 : Fld) (h : pFieldsOk_1 a0) : s_impl_FieldsOk_1 a0 (fun r => r = mFieldsOk_1 a0) := by
  unfold s_impl_FieldsOk_1 mFieldsOk_1; unfold pFieldsOk_1 at h; grind
theorem impl_hasField_ok (a0 : List Fld) (a1 : S) (h : pHasField a0 a1) : s_impl_hasField a0 a1 (fun r => r = mHasField a0 a1) := ⟨h, rfl⟩
theorem impl_bodyFields_ok (a0 : List Fld) (h : pBodyFields a0) : s_impl_bodyFields a0 (fun r => r = mBodyFields a0) := by
  unfold s_impl_bodyFields mBodyFields nameCL nameTE; unfold pBodyFields at h; unfold pHasField; grind
theorem impl_ownFields_ok (a0 : List Fld) (h : pOwnFields a0) : s_impl_ownFields a0 (fun r => r = mOwnFields a0) := by
  unfold s_impl_ownFields mOwnFields; unfold pOwnFields at h; unfold pFieldsOk pBodyFields; grind
theorem spec_l6Plain_ok (a0 : List Fld) (h : pOwnFields a0) : s_spec_l6Plain a0 (fun r => r = mOwnFields a0) := by
  unfold s_spec_l6Plain mOwnFields mBodyFields mHasField nameCL nameTE; unfold pOwnFields at h; unfold pFieldsOk pFieldGet; grind
theorem impl_ResponseOk_ok (a0 : Rsp) (h : pResponseOk a0) : s_impl_ResponseOk a0 (fun r => r = mResponseOk a0) := by
  unfold s_impl_ResponseOk mResponseOk; unfold pResponseOk at h; unfold pIn pOwnFields pBodiless; grind
theorem spec_ResponseOk_ok (a0 : Rsp) (h : pResponseOk a0) : s_spec_ResponseOk a0 (fun r => r = mResponseOk a0) := by
  unfold s_spec_ResponseOk mResponseOk mBodiless; unfold pResponseOk at h; unfold pIn pOwnFields
  (repeat' first | apply And.intro | intro _) <;> grind
theorem spec_Heuristic_ok (a0 : Int) : s_spec_Heuristic a0 (fun r => r = mHeuristic a0) := ⟨by simp [pL4Has, maxLen], rfl⟩
theorem spec_l7Unquote_ok (a0 : S) (h : pL7Unquote a0) : s_spec_l7Unquote a0 (fun r => r = mL7Unquote a0) := by
  unfold pL7Unquote sm at h
  have hw : 2 ≤ (a0.size : Int) → IntKind.i64.wrap ((a0.size : Int) - 1) = (a0.size : Int) - 1 := fun h2 => wrap64 (by omega) (by omega)
  unfold s_spec_l7Unquote mL7Unquote
  refine ⟨fun h2 => ?_, fun h2 => ?_⟩
  · rw [hw h2]
    have ht : ((a0.size : Int) - 1).toNat = a0.size - 1 := by omega
    rw [ht]
    grind
  · grind
theorem impl_Trim_ok (a0 : S) (h : pTrim a0) : s_impl_Trim a0 (fun r => r = mTrim a0) := ⟨⟨h, rfl⟩, rfl⟩
theorem impl_TagOf_ok (a0 : Int) (h : pTagOf a0) : s_impl_TagOf a0 (fun r => r = mTagOf a0) := by
  have hl : pTagOf a0 → (mDec a0).size ≤ 21 := fun h => by
    unfold mDec mItoa; rw [ob_size]; exact Lib.itoa_length_le a0 h.1 h.2
  have h1 : (lit [34, 118]).size = 2 := rfl
  have h2 : (lit [34]).size = 1 := rfl
  unfold s_impl_TagOf mTagOf pIn pDec
  unfold pTagOf at h
  have := hl h
  simp only [size_append, h1, h2]
  grind
theorem spec_TagOf_ok (a0 : Int) (h : pTagOf a0) : s_spec_TagOf a0 (fun r => r = mTagOf a0) := impl_TagOf_ok a0 h
theorem impl_Dec_ok (a0 : Int) (h : pDec a0) : s_impl_Dec a0 (fun r => r = mDec a0) := ⟨h, rfl⟩
theorem spec_OnlyStored_ok (a0 : Req) (h : pOnlyStored a0) : s_spec_OnlyStored a0 (fun r => r = mOnlyStored a0) := by
  refine ⟨?_, rfl⟩
  unfold pOnlyStored md at h; unfold pCcHas md
  simp only [cz_pair] at h; omega
theorem impl_OnlyStored_ok (a0 : Req) (h : pOnlyStored a0) : s_impl_OnlyStored a0 (fun r => r = mOnlyStored a0) := spec_OnlyStored_ok a0 h
end Go.Ev
end

section
/- Laws of the plain library, second part: searches. -/
set_option linter.unusedVariables false
namespace Go.Ev

/-- What a search over a list comes to. -/
def scanS {α : Type} [Dft α] (xs : List α) (P C : α → Prop) (Qh : Int → Prop) (Qe : Prop) : Prop :=
  ∀ L : Int → Prop, (∀ y : Int, ((y < (xs.length : Int) → 0 ≤ y ∧ y < (xs.length : Int) ∧ P (rx xs y) ∧ ((C (rx xs y) → Qh y) ∧ (¬ C (rx xs y) → L (IntKind.i64.wrap (y + 1))))) ∧
    (¬ y < (xs.length : Int) → Qe)) → L y) → L 0
theorem scanS_ok {α : Type} [Dft α] {xs : List α} {P C : α → Prop} {Qh : Int → Prop} {Qe : Prop} (hlen : xs.length ≤ maxLen) (hP : ∀ x ∈ xs, P x)
    (hh : ∀ (i : Nat) (h : i < xs.length), C xs[i] → (∀ (j : Nat) (hj : j < i), ¬ C (xs[j]'(by omega))) → Qh (i : Int)) (he : (∀ x ∈ xs, ¬ C x) → Qe) : scanS xs P C Qh Qe := by
  intro L hL
  simp only [maxLen] at hlen
  refine loopN hL xs.length (by omega) (fun i => ∀ (j : Nat) (hj : j < i) (h : j < xs.length), ¬ C xs[j]) (fun i hi hI hn => ?_) (fun j hj => by omega)
  refine ⟨fun hlt => ?_, fun hge => ?_⟩
  · have hlt : i < xs.length := by omega
    rw [rx_get xs hlt]
    refine ⟨by omega, by omega, hP _ (List.getElem_mem hlt), fun hc => hh i hlt hc fun j hj => hI j hj (by omega), fun hc => hn hlt fun j hj h => ?_⟩
    by_cases e : j = i
    · subst e; exact hc
    · exact hI j (by omega) h
  · refine he fun x hx => ?_
    obtain ⟨j, hj, rfl⟩ := List.mem_iff_getElem.1 hx
    exact hI j (by omega) hj
/-- .. without a look at what it asks. -/
def scanT {α : Type} [Dft α] (xs : List α) (C : α → Prop) (Qh : Int → Prop) (Qe : Prop) : Prop :=
  ∀ L : Int → Prop, (∀ y : Int, ((y < (xs.length : Int) → 0 ≤ y ∧ y < (xs.length : Int) ∧ ((C (rx xs y) → Qh y) ∧ (¬ C (rx xs y) → L (IntKind.i64.wrap (y + 1))))) ∧
    (¬ y < (xs.length : Int) → Qe)) → L y) → L 0
theorem scanT_ok {α : Type} [Dft α] {xs : List α} {C : α → Prop} {Qh : Int → Prop} {Qe : Prop} (hlen : xs.length ≤ maxLen)
    (hh : ∀ (i : Nat) (h : i < xs.length), C xs[i] → (∀ (j : Nat) (hj : j < i), ¬ C (xs[j]'(by omega))) → Qh (i : Int)) (he : (∀ x ∈ xs, ¬ C x) → Qe) : scanT xs C Qh Qe := by
  have h : scanS xs (fun _ => True) C Qh Qe := scanS_ok hlen (fun _ _ => trivial) hh he
  intro L hL
  exact h L fun y hy => hL y ⟨fun h1 => ⟨(hy.1 h1).1, (hy.1 h1).2.1, (hy.1 h1).2.2.2⟩, hy.2⟩
theorem md_len {α : Type} [Cz α] {xs : List α} (h : md xs) : xs.length ≤ maxLen := by
  have := cz_len xs
  unfold md at h
  simp only [maxLen]; omega
theorem md_len' {α : Type} [Cz α] {xs : List α} (h : md xs) : xs.length ≤ 1048576 := by
  have := cz_len xs
  unfold md at h
  omega

/-- A search for a place. -/
theorem idxS_ok {α : Type} [Dft α] {xs : List α} {P : α → Prop} {F : α → Bool} (hlen : xs.length ≤ maxLen) (hP : ∀ x ∈ xs, P x) :
    scanS xs P (fun x => F x = true) (fun i => i = idxI F xs) (-1 = idxI F xs) :=
  scanS_ok hlen hP (fun i h hc hb => (idxI_at h hc fun j hj => by have := hb j hj; simpa using this).symm)
    (fun h => (idxI_none fun j hj => by have := h _ (List.getElem_mem hj); simpa using this).symm)
theorem idxI_nonneg {α : Type} {F : α → Bool} {xs : List α} : decide (0 ≤ idxI F xs) = xs.any F := by
  have h := idxI_neg (p := F) (xs := xs)
  cases hx : xs.any F with
  | true =>
    rw [hx] at h
    have : ¬ idxI F xs < 0 := by rw [h]; simp
    exact decide_eq_true (by omega)
  | false =>
    have := h.2 hx
    exact decide_eq_false (by omega)
theorem sm_of_md {x y : S} (h : cz (x, y) ≤ 1048576) : sm x ∧ sm y := by
  simp only [cz_pair, cz_str] at h
  unfold sm; omega

theorem IndexFunc_FieldsOk_1_ok (a0 : List Fld) (a1 : Unit) (h : pIndexFunc_FieldsOk_1 a0 a1) : s_IndexFunc_FieldsOk_1 a0 a1 (fun r => r = mIndexFunc_FieldsOk_1 a0 a1) :=
  idxS_ok (P := pFieldsOk_1) (md_len h) fun x hx => sm_of_md (md_mem h hx)
theorem ContainsFunc_FieldsOk_1_ok (a0 : List Fld) (a1 : Unit) (h : pContainsFunc_FieldsOk_1 a0 a1) : s_ContainsFunc_FieldsOk_1 a0 a1 (fun r => r = mContainsFunc_FieldsOk_1 a0 a1) :=
  ⟨h, idxI_nonneg⟩
theorem impl_FieldsOk_ok (a0 : List Fld) (h : pFieldsOk a0) : s_impl_FieldsOk a0 (fun r => r = mFieldsOk a0) := by
  have e : (a0.any mFieldsOk_1) = !(a0.all mFieldOk) := by
    unfold mFieldsOk_1
    rw [List.all_eq_not_any_not, Bool.not_not]
  unfold s_impl_FieldsOk mFieldsOk mContainsFunc_FieldsOk_1
  rw [e]
  unfold pContainsFunc_FieldsOk_1
  unfold pFieldsOk at h
  grind
theorem spec_FieldsOk_ok (a0 : List Fld) (h : pFieldsOk a0) : s_spec_FieldsOk a0 (fun r => r = mFieldsOk a0) := by
  refine scanS_ok (P := pFieldOk) (C := fun x => ¬ mFieldOk x = true) (Qh := fun _ => false = mFieldsOk a0) (md_len h) (fun x hx => sm_of_md (md_mem h hx)) (fun i hi hc _ => ?_) (fun hx => ?_)
  · unfold mFieldsOk
    rw [all_false hi (by simpa using hc)]; rfl
  · unfold mFieldsOk
    rw [List.all_eq_true.2 fun x hx' => by have := hx x hx'; simpa using this]; rfl
theorem spec_l4Has_ok (a0 : List Int) (a1 : Int) (h : pL4Has a0 a1) : s_spec_l4Has a0 a1 (fun r => r = mL4Has a0 a1) := by
  refine scanT_ok (C := fun x => x = a1) (Qh := fun _ => true = mL4Has a0 a1) h (fun i hi hc _ => ?_) (fun hx => ?_)
  · unfold mL4Has
    exact (any_true hi (by simpa using hc)).symm
  · unfold mL4Has
    exact (List.any_eq_false.2 fun x hx' => by have := hx x hx'; simpa using this).symm
theorem slices_Index_string_ok (a0 : List S) (a1 : S) (h : pIndex_string a0 a1) : s_slices_Index_string a0 a1 (fun r => r = mIndex_string a0 a1) := by
  refine scanT_ok (C := fun x => a1 = x) (Qh := fun i => i = mIndex_string a0 a1) h (fun i hi hc hb => ?_) (fun hx => ?_)
  · exact (idxI_at hi (by simpa using hc) fun j hj => by have := hb j hj; simpa using this).symm
  · exact (idxI_none fun j hj => by have := hx _ (List.getElem_mem hj); simpa using this).symm
theorem slices_Contains_string_ok (a0 : List S) (a1 : S) (h : pContains_string a0 a1) : s_slices_Contains_string a0 a1 (fun r => r = mContains_string a0 a1) := ⟨h, idxI_nonneg⟩
theorem IndexFunc_CcHas_1_ok (a0 : List Fld) (a1 : S) (h : pIndexFunc_CcHas_1 a0 a1) : s_IndexFunc_CcHas_1 a0 a1 (fun r => r = mIndexFunc_CcHas_1 a0 a1) :=
  idxS_ok (P := fun x => pCcHas_1 x a1) (F := fun d => mCcHas_1 d a1) h fun _ _ => trivial
theorem ContainsFunc_CcHas_1_ok (a0 : List Fld) (a1 : S) (h : pContainsFunc_CcHas_1 a0 a1) : s_ContainsFunc_CcHas_1 a0 a1 (fun r => r = mContainsFunc_CcHas_1 a0 a1) := ⟨h, idxI_nonneg⟩
theorem IndexFunc_ShardOk_1_ok (a0 : List Slt) (a1 : Slt) (h : pIndexFunc_ShardOk_1 a0 a1) : s_IndexFunc_ShardOk_1 a0 a1 (fun r => r = mIndexFunc_ShardOk_1 a0 a1) :=
  idxS_ok (P := fun y => pShardOk_1 y a1) (F := fun y => mShardOk_1 y a1) h.1 fun _ _ => h.2
theorem ContainsFunc_ShardOk_1_ok (a0 : List Slt) (a1 : Slt) (h : pContainsFunc_ShardOk_1 a0 a1) : s_ContainsFunc_ShardOk_1 a0 a1 (fun r => r = mContainsFunc_ShardOk_1 a0 a1) := ⟨h, idxI_nonneg⟩

/-! ### Comparing rows of fields -/
theorem spec_SameFields_ok (a0 a1 : List Fld) (h : pSameFields a0 a1) : s_spec_SameFields a0 a1 (fun r => r = mSameFields a0 a1) := by
  unfold pSameFields at h
  simp only [maxLen] at h
  unfold s_spec_SameFields mSameFields
  refine ⟨fun hne => (decide_eq_false fun e => hne (by rw [e])).symm, fun heq => ?_⟩
  have hl : a0.length = a1.length := by omega
  intro L hL
  refine loopN hL a0.length (by omega) (fun i => a0.take i = a1.take i) (fun i hi hI hn => ?_) rfl
  refine ⟨fun hlt => ?_, fun hge => ?_⟩
  · have h0 : i < a0.length := by omega
    have h1 : i < a1.length := by omega
    rw [rx_get a0 h0, rx_get a1 h1]
    refine ⟨by omega, by omega, by omega, by omega, fun hc => (decide_eq_false fun e => hc (by subst e; rfl)).symm, fun hc => hn h0 ?_⟩
    rw [take_succ_app h0, take_succ_app h1, hI, Classical.not_not.1 hc]
  · refine (decide_eq_true ?_).symm
    have e0 : a0.take i = a0 := List.take_of_length_le (by omega)
    have e1 : a1.take i = a1 := List.take_of_length_le (by omega)
    rw [← e0, hI, e1]
theorem slices_Equal_Field_ok (a0 a1 : List Fld) (h : pEqual_Field a0 a1) : s_slices_Equal_Field a0 a1 (fun r => r = mEqual_Field a0 a1) := spec_SameFields_ok a0 a1 h
theorem impl_SameFields_ok (a0 a1 : List Fld) (h : pSameFields a0 a1) : s_impl_SameFields a0 a1 (fun r => r = mSameFields a0 a1) := ⟨h, rfl⟩
theorem spec_l12Same_ok (a0 a1 : Sto) (h : pStandAlike a0 a1) : s_spec_l12Same a0 a1 (fun r => r = mStandAlike a0 a1) := by
  unfold s_spec_l12Same mStandAlike
  unfold pStandAlike at h
  unfold pSameFields mSameFields
  grind
theorem impl_standAlike_ok (a0 a1 : Sto) (h : pStandAlike a0 a1) : s_impl_standAlike a0 a1 (fun r => r = mStandAlike a0 a1) := spec_l12Same_ok a0 a1 h
theorem impl_ShardOk_1_ok (a0 a1 : Slt) (h : pShardOk_1 a0 a1) : s_impl_ShardOk_1 a0 a1 (fun r => r = mShardOk_1 a0 a1) := ⟨h, rfl⟩

/-! ### Texts, byte by byte -/
theorem ints_get (s : S) {i : Nat} (h : i < s.size) : (ints s)[i]'(by unfold ints; rw [List.length_map, bs_len]; exact h) = bt s (i : Int) := by
  rw [bt_nat s i h]
  unfold ints
  rw [List.getElem_map]
theorem ints_len (s : S) : (ints s).length = s.size := by unfold ints; rw [List.length_map, bs_len]
theorem ints_all {s : S} {p : Int → Bool} : (ints s).all p = true ↔ ∀ i : Nat, i < s.size → p (bt s (i : Int)) = true := by
  rw [List.all_eq_true]
  constructor
  · intro h i hi
    rw [← ints_get s hi]
    exact h _ (List.getElem_mem _)
  · intro h x hx
    obtain ⟨j, hj, rfl⟩ := List.mem_iff_getElem.1 hx
    have hj' : j < s.size := by rw [ints_len] at hj; exact hj
    rw [ints_get s hj']
    exact h j hj'
theorem ints_all_false {s : S} {p : Int → Bool} {i : Nat} (h : i < s.size) (hp : ¬ p (bt s (i : Int)) = true) : (ints s).all p = false := by
  cases hx : (ints s).all p with
  | false => rfl
  | true => exact absurd (ints_all.1 hx i h) hp
/-- What a search over a text's bytes comes to, at each byte. -/
theorem scanB {s : S} {p : Int → Bool} {B : Int → (Int → Prop) → Prop} (hlen : sm s)
    (hit : ∀ i : Nat, i < s.size → ∀ L : Int → Prop, (p (bt s (i : Int)) = true → L (IntKind.i64.wrap ((i : Int) + 1))) → (¬ p (bt s (i : Int)) = true → (ints s).all p = false) → B (i : Int) L)
    (he : (ints s).all p = true → ∀ L, B (s.size : Int) L) : ∀ L : Int → Prop, (∀ y, B y L → L y) → L 0 := by
  intro L hL
  unfold sm at hlen
  refine loopN hL s.size (by omega) (fun i => ∀ j : Nat, j < i → j < s.size → p (bt s (j : Int)) = true) (fun i hi hI hn => ?_) (fun j hj => by omega)
  by_cases hlt : i < s.size
  · refine hit i hlt L (fun hp => hn hlt fun j hj hj2 => ?_) fun hp => ints_all_false hlt hp
    by_cases e : j = i
    · subst e; exact hp
    · exact hI j (by omega) hj2
  · have : i = s.size := by omega
    subst this
    exact he (ints_all.2 fun j hj => hI j hj hj) L
theorem spec_UriOk_ok (a0 : S) (h : pUriOk a0) : s_spec_UriOk a0 (fun r => r = mUriOk a0) := by
  refine scanB (p := fun b => decide (33 ≤ b) && decide (b ≤ 126)) h (fun i hi L hL hf => ?_) fun ha L => ?_
  · unfold mUriOk
    grind
  · unfold mUriOk pIn
    simp only [ha]
    refine ⟨fun h => by omega, fun _ => ⟨trivial, fun h1 => ⟨by omega, ?_, ?_⟩, fun h1 => ?_⟩⟩
    · unfold mIn at h1; grind
    · rw [h1]; rfl
    · rw [Bool.not_eq_true] at h1; rw [h1]; rfl
theorem impl_UriOk_ok (a0 : S) (h : pUriOk a0) : s_impl_UriOk a0 (fun r => r = mUriOk a0) := by
  refine scanB (p := fun b => decide (33 ≤ b) && decide (b ≤ 126)) h (fun i hi L hL hf => ?_) fun ha L => ?_
  · unfold mUriOk
    grind
  · unfold mUriOk pIn
    simp only [ha]
    refine ⟨fun h => by omega, fun _ => ⟨trivial, fun h1 => ⟨by omega, ?_, ?_⟩, fun h1 => ?_⟩⟩
    · unfold mIn at h1; grind
    · rw [h1]; rfl
    · rw [Bool.not_eq_true] at h1; rw [h1]; rfl
theorem spec_IsTokenText_ok (a0 : S) (h : pIsTokenText a0) : s_spec_IsTokenText a0 (fun r => r = mIsTokenText a0) := by
  refine scanB (p := mToken) h (fun i hi L hL hf => ?_) fun ha L => ?_
  · unfold mIsTokenText pToken
    grind
  · unfold mIsTokenText
    simp only [ha]
    grind
theorem sign_iff : ∀ n : Fin 256, (mToken (n.val : Int) = true) ↔ (mIsLetterOrDigit (n.val : Int) = true ∨ ¬ mIndexByte (lit [33, 35, 36, 37, 38, 39, 42, 43, 45, 46, 94, 95, 124, 126, 96]) (n.val : Int) < 0) := by decide +kernel
theorem impl_IsTokenText_ok (a0 : S) (h : pIsTokenText a0) : s_impl_IsTokenText a0 (fun r => r = mIsTokenText a0) := by
  refine scanB (p := mToken) h (fun i hi L hL hf => ?_) fun ha L => ?_
  · have hb := bt_range a0 (i : Int)
    have hs := sign_iff ⟨(bt a0 (i : Int)).toNat, by omega⟩
    simp only [Int.toNat_of_nonneg hb.1] at hs
    unfold mIsTokenText pIsLetterOrDigit pIndexByte
    generalize mIndexByte _ (bt a0 (i : Int)) = k at hs ⊢
    grind
  · unfold mIsTokenText
    simp only [ha]
    refine ⟨fun h => by omega, fun _ => ?_⟩
    rw [Bool.true_and]
    exact decide_eq_decide.2 lit_ne
theorem spec_IsValueText_ok (a0 : S) (h : pIsValueText a0) : s_spec_IsValueText a0 (fun r => r = mIsValueText a0) := by
  refine scanB (p := fun b => decide (b = 9) || (decide (32 ≤ b) && decide (b ≠ 127))) h (fun i hi L hL hf => ?_) fun ha L => ?_
  · unfold mIsValueText
    grind
  · unfold mIsValueText
    simp only [ha]
    exact ⟨fun h => by omega, fun _ => ⟨h, rfl⟩⟩
theorem impl_IsValueText_ok (a0 : S) (h : pIsValueText a0) : s_impl_IsValueText a0 (fun r => r = mIsValueText a0) := by
  refine scanB (p := fun b => decide (b = 9) || (decide (32 ≤ b) && decide (b ≠ 127))) h (fun i hi L hL hf => ?_) fun ha L => ?_
  · unfold mIsValueText
    grind
  · unfold mIsValueText
    simp only [ha]
    exact ⟨fun h => by omega, fun _ => ⟨h, rfl⟩⟩
end Go.Ev
end
