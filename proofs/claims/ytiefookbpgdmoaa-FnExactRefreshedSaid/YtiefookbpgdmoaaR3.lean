/- A small verified machine for the operations of the given program, and plain laws of what its functions compute; without conditions of its own. Part 4. -/
import Derived.Test.YtiefookbpgdmoaaR2
import Derived.ChangeArms
import Derived.Deep.Slices
import Derived.DataReads
import Derived.WideShapes
import Derived.Lib.SlTrimSet
import Derived.Lib.Bytealg
import Derived.Lib.IndexMore
import Derived.Lib.Join
import Derived.Lib.ItoaMem
import Derived.Lib.ItoaLen
import Derived.Lib.AppendIntMem
import Derived.Lib.LaidTab
import Derived.Stop.LaidErr
import Derived.Laws.IdiomStrings
import Derived.Lib.AtoiAllMem
import Derived.Lib.AtoiAllCases
import Derived.Lib.Split
import Derived.Sort.Walk0
import Derived.Lib.IndexBytes
import Derived.Lib.IndexLaws
import Derived.Test.YtiefookbpgdmoaaShelf
import Derived.Test.YtiefookbpgdmoaaProg
set_option linter.unusedVariables false
set_option linter.unusedSimpArgs false
section
/- The small machine is true to the model, twenty-fifth part: code, functions. -/
set_option linter.unusedVariables false
namespace Go.Ev
open Go.RowKit

section
variable {P : Program} {E : Env} {F : Fm} {G : Gh} {σ τ σ' σb σh : St} {a : Act} {w : World} {tmps : Array Value} {H : Nat → List CT}

def InLoop (P : Program) (c : Code) (Q : Exit → Act → World → Prop) (a : Act) (w : World) : Prop := ∀ (b : Frame) (k : List Item) (cs : List Frame),
  ∃ e a' w', Q e a' w' ∧ Arrives P (lone (b.at a (.code c :: .inLoop c :: k)) cs w) b k cs e a' w'
theorem inLoop_round {c : Code} {Q : Exit → Act → World → Prop} (h : c.wp P (Exit.then (InLoop P c Q) Q) a w) : InLoop P c Q a w := by
  intro b k cs
  obtain ⟨e, a₁, w₁, hq, harr⟩ := h b (.inLoop c :: k) cs
  cases e with
  | normal =>
    obtain ⟨e₂, a₂, w₂, hq₂, harr₂⟩ := hq b k cs
    exact ⟨e₂, a₂, w₂, hq₂, .of_steps (Steps.trans harr (.one step_inLoop)) harr₂⟩
  | exit id => exact ⟨_, a₁, w₁, hq, .pass (x := .inLoop c) rfl (fun _ _ => .inl (by simp)) harr⟩
  | goto l => exact ⟨_, a₁, w₁, hq, .pass (x := .inLoop c) rfl (fun _ _ => .inl (by simp)) harr⟩
  | ret => exact ⟨_, a₁, w₁, hq, .pass (x := .inLoop c) rfl (fun _ _ => .inl (by simp)) harr⟩
  | panic ch => exact ⟨_, a₁, w₁, hq, .pass (x := .inLoop c) rfl (fun _ _ => .inl (by simp)) harr⟩
  | outgrown => exact ⟨_, a₁, w₁, hq, .pass (x := .inLoop c) rfl (fun _ _ => .inl (by simp)) harr⟩
theorem wp_of_inLoop {c : Code} {Q : Exit → Act → World → Prop} (h : InLoop P c Q a w) : (Code.loop c).wp P Q a w := fun b k cs =>
  let ⟨e, a', w', hq, harr⟩ := h b k cs
  ⟨e, a', w', hq, .of_steps (.one step_loop) harr⟩

def exOf : Ex → Exit
  | .normal => .normal
  | .exit id => .exit id
  | .ret => .ret

def Carried (F : Fm) (m : Nat) (σb : St) (cs : List CT) (y : cts cs) (a : Act) (w : World) : Prop :=
  ∃ τ G, Rel F G τ a.tmps w ∧ Rel F G σb a.tmps w ∧ BoxSlots σb τ ∧ carry m σb m τ cs = some y ∧ Calm F a

theorem mem_append_left {l m : List Nat} : ∀ {i : Nat}, i ∈ l → i ∈ app l m := by
  induction l with
  | nil => intro i h; cases h
  | cons a l ih =>
    intro i h
    simp only [app]
    rcases List.mem_cons.1 h with rfl | h
    · simp
    · exact List.mem_cons_of_mem _ (ih h)
theorem mem_append_right {l m : List Nat} : ∀ {i : Nat}, i ∈ m → i ∈ app l m := by
  induction l with
  | nil => intro i h; simpa [app] using h
  | cons a l ih => intro i h; simp only [app]; exact List.mem_cons_of_mem _ (ih h)

theorem evalCode_ok (hE : EnvOk P E) (hC : EnvCts P E F.w0 F.n0) : ∀ (c : Code) {n : Nat} {σ : St} {a : Act} {w : World} {K : Ex → Nat → St → Prop} {Q : Exit → Act → World → Prop}, (∀ d ∈ pdsts c, F.free d) → Ok F σ a w → evalCode E H c n σ K →
    (∀ e n' σ' a' w', K e n' σ' → Ok F σ' a' w' → Ext (dsts H c) σ σ' → Q (exOf e) a' w') → c.wp P Q a w := by
  intro c
  induction c with
  | skip =>
    intro n σ a w K Q hX h hs hK
    exact wp_skip (hK .normal n σ a w hs h (Ext.refl _ _))
  | region id ops dr =>
    intro n σ a w K Q hX h hs hK
    cases dr with
    | true =>
      obtain ⟨hb, hs⟩ : (drawOk E ops && (allB (fun q : Nat × Option Reg => Nat.ble (Nat.succ q.1) (n * 65536)) σ.regs && allB (fun q : Nat × List Leaf => Nat.ble (Nat.succ q.1) (n * 65536)) σ.boxes)) = true ∧ evalDraw E ops.toList (tk (preLen E ops.toList) ops.toList) 0 (n * 65536) σ (fun σ' => evalSeq E (dp ops.toList (preLen E ops.toList)) (n * 65536 + 256 * preLen E ops.toList) σ' fun σ' => K .normal (n + 1) σ') := by
        have hs' : (bif drawOk E ops && (allB (fun q : Nat × Option Reg => Nat.ble (Nat.succ q.1) (n * 65536)) σ.regs && allB (fun q : Nat × List Leaf => Nat.ble (Nat.succ q.1) (n * 65536)) σ.boxes) then evalDraw E ops.toList (tk (preLen E ops.toList) ops.toList) 0 (n * 65536) σ (fun σ' => evalSeq E (dp ops.toList (preLen E ops.toList)) (n * 65536 + 256 * preLen E ops.toList) σ' fun σ' => K .normal (n + 1) σ') else False) := hs
        cases hb : (drawOk E ops && (allB (fun q : Nat × Option Reg => Nat.ble (Nat.succ q.1) (n * 65536)) σ.regs && allB (fun q : Nat × List Leaf => Nat.ble (Nat.succ q.1) (n * 65536)) σ.boxes)) with
        | true => rw [hb] at hs'; exact ⟨rfl, hs'⟩
        | false => rw [hb] at hs'; exact hs'.elim
      simp only [Bool.and_eq_true] at hb
      exact draw_ok hE hC hX h hb.1 hb.2.1 hb.2.2 hs fun σ' a' w' hk hok hext => hK .normal (n + 1) σ' a' w' hk hok hext
    | false =>
      exact region_ok hE hC hX h hs fun σ' a' w' hk hok hext => hK .normal (n + 1) σ' a' w' hk hok hext
  | seq c1 c2 ih1 ih2 =>
    intro n σ a w K Q hX h hs hK
    refine wp_seq (ih1 (fun d hd => hX d (mem_append_left hd)) h hs fun e n' σ' a' w' hk hok hext => ?_)
    have he1 : Ext (dsts H (.seq c1 c2)) σ σ' := hext.mono fun i hi => mem_append_left hi
    cases e with
    | normal => exact ih2 (fun d hd => hX d (mem_append_right hd)) hok hk fun e2 n2 σ2 a2 w2 hk2 hok2 hext2 => hK e2 n2 σ2 a2 w2 hk2 hok2 (he1.trans (hext2.mono fun i hi => mem_append_right hi))
    | exit id => exact hK _ n' σ' a' w' hk hok he1
    | ret => exact hK _ n' σ' a' w' hk hok he1
  | cond x c1 c2 ih1 ih2 =>
    intro n σ a w K Q hX h hs hK
    have hs : (match σ.op x with
      | .cell l => brP l (evalCode E H c1 n σ K) (evalCode E H c2 n σ K) (fun p => (p → evalCode E H c1 n σ K) ∧ (¬ p → evalCode E H c2 n σ K))
      | _ => False) := hs
    have l1 : evalCode E H c1 n σ K → c1.wp P Q a w := fun hh => ih1 (fun d hd => hX d (mem_append_left hd)) h hh fun e n' σ' a' w' hk hok hext => hK e n' σ' a' w' hk hok (hext.mono fun i hi => mem_append_left hi)
    have l2 : evalCode E H c2 n σ K → c2.wp P Q a w := fun hh => ih2 (fun d hd => hX d (mem_append_right hd)) h hh fun e n' σ' a' w' hk hok hext => hK e n' σ' a' w' hk hok (hext.mono fun i hi => mem_append_right hi)
    split at hs
    · next l hl =>
      obtain ⟨G, hR, hd⟩ := h
      have hop := op_ok hR x
      rw [hl] at hop
      simp only [slotR] at hop
      obtain ⟨b, hb, hres⟩ := brP_ok (R := fun b => (if b then c1 else c2).wp P Q a w) hop hs (fun _ hT _ => l1 hT) (fun _ hF _ => l2 hF) (fun p hS ⟨d, hv⟩ => by
        refine ⟨@decide p d, hv, ?_⟩
        cases d with
        | isTrue hp => exact l1 (hS.1 hp)
        | isFalse hp => exact l2 (hS.2 hp))
      exact wp_cond hb hres
    · exact hs.elim
  | block id c ih =>
    intro n σ a w K Q hX h hs hK
    refine wp_block (ih hX h hs fun e n' σ' a' w' hk hok hext => ?_)
    cases e with
    | normal => exact hK .normal n' σ' a' w' hk hok hext
    | exit i =>
      simp only at hk
      simp only [exOf, Exit.inBlock]
      cases hb : Nat.beq i id with
      | true =>
        rw [hb] at hk
        rw [if_pos (beq_nat hb)]
        exact hK .normal n' σ' a' w' hk hok hext
      | false =>
        rw [hb] at hk
        rw [if_neg fun e => by rw [e, Nat.beq_refl] at hb; cases hb]
        exact hK (.exit i) n' σ' a' w' hk hok hext
    | ret => exact hK .ret n' σ' a' w' hk hok hext
  | loop c ih =>
    intro n σ a w K Q hX h hs hK
    simp only [evalCode] at hs
    split at hs
    · exact hs.elim
    · next σb hbase =>
      split at hs
      · exact hs.elim
      · next y₀ hy₀ =>
        cases hok : headOk (n * 65536) (H (firstRegion c)) (dsts H (.loop c)) σb with
        | false => rw [hok] at hs; exact hs.elim
        | true =>
          rw [hok] at hs
          simp only [Bool.not_true, cond_false] at hs
          obtain ⟨G, hR, hd⟩ := h
          obtain ⟨hb, hj⟩ := base_ok hbase
          have hnm := hb.named hR
          have hRb : Rel F G σb a.tmps w := hR.weaken (fun i => by
              by_cases hi : i ∈ dsts H (.loop c)
              · exact .inl (hb.hit i hi)
              · exact .inr (hb.miss i hi)) hnm.1 (fun b c' hc' => ⟨hnm.2 b c' hc', hb.boxes b c' hc'⟩) hb.regs hb.len (fun r g hg x hx => by
                obtain ⟨rs, hrs⟩ := (ext_base hbase).regs
                have := hR.hol r g (hb.regs r g hg) x hx
                rw [hrs]
                exact look_isSome_append this)
          have hlen : (H (firstRegion c)).length ≤ 65536 := by
            have := hok
            simp only [headOk, Bool.and_eq_true] at this
            exact Nat.le_of_ble_eq_true this.2
          have hkept : ∀ s ∈ keptSlots (H (firstRegion c)), s ∈ dsts H (.loop c) := fun s hs => by
            have := hok
            simp only [headOk, Bool.and_eq_true] at this
            exact memN_iff.1 (allB_mem (f := fun s => memN s (dsts H (.loop c))) this.1.2 hs)
          have hext0 : Ext (dsts H (.loop c)) σ σb := ext_base hbase
          have hsize : σb.slots.length = a.tmps.size := hRb.nslots
          refine wp_of_inLoop (hs (fun y => ∀ a w, Carried F (n * 65536) σb (H (firstRegion c)) y a w → InLoop P c Q a w) (fun y hy a1 w1 hcar => ?_) a w
            ⟨σ, G, hR, hRb, fun s b hs => by
              by_cases hi : s ∈ dsts H (.loop c)
              · rw [hb.hit s hi] at hs; simp at hs
              · rw [← hb.miss s hi]; exact hs, hy₀, hd⟩)
          obtain ⟨τ, G1, hRτ, hRσ, hB, hc, hd1⟩ := hcar
          split at hy
          · exact hy.elim
          · next σh hh =>
            obtain ⟨G2, hR2⟩ := fill_head hRτ hRσ (fun b => .inl rfl) (fun b => Iff.rfl) (fun r g hg => .inl hg) (Nat.le_refl _) (by omega) hB hc hh
            have hexth : Ext (dsts H (.loop c)) σb σh := ext_head hkept hh
            refine inLoop_round (ih hX ⟨G2, hR2, hd1⟩ hy fun e n' σ' a' w' hk hok2 hext0' => ?_)
            have hext : Ext (dsts H (.loop c)) σh σ' := hext0'.mono fun i hi => mem_append_left hi
            have hall : Ext (dsts H (.loop c)) σ σ' := (hext0.trans hexth).trans hext
            cases e with
            | exit id => exact hK _ n' σ' a' w' hk hok2 hall
            | ret => exact hK _ n' σ' a' w' hk hok2 hall
            | normal =>
              simp only at hk
              split at hk
              · next y' hy' =>
                obtain ⟨G3, hR3, hd3⟩ := hok2
                unfold back at hy'
                obtain ⟨hround, hcarry⟩ := bif_some hy'
                have hsz : σb.slots.length = a'.tmps.size := by rw [← hR3.nslots, hext.ns, hexth.ns]
                obtain ⟨g1, g2⟩ := back_rel hb hnm hj hok hh hext hround hR3 hsz
                exact hk a' w' ⟨σ', G3, hR3, g1, g2, hcarry, hd3⟩
              · exact hk.elim
  | exit id =>
    intro n σ a w K Q hX h hs hK
    exact wp_exit (hK (.exit id) n σ a w hs h (Ext.refl _ _))
  | ret =>
    intro n σ a w K Q hX h hs hK
    exact wp_ret (hK .ret n σ a w hs h (Ext.refl _ _))
  | rangeFunc _ _ _ _ _ _ => intro n σ a w K Q hX h hs hK; exact hs.elim
  | scope _ _ => intro n σ a w K Q hX h hs hK; exact hs.elim
  | label _ => intro n σ a w K Q hX h hs hK; exact hs.elim
  | goto _ => intro n σ a w K Q hX h hs hK; exact hs.elim
  | refuse _ => intro n σ a w K Q hX h hs hK; exact hs.elim
end
end Go.Ev
end

section
/- The small machine is true to the model, twenty-sixth part: results, and a function's contract. -/
set_option linter.unusedVariables false
namespace Go.Ev
open Go.RowKit

section
variable {P : Program} {E : Env} {F : Fm} {G : Gh} {σ τ σ' σ0 : St} {a : Act} {w : World} {tmps : Array Value} {H : Nat → List CT}

theorem shared_ok {dp : Bool} (h : Rel F G σ tmps w) {S' : Nat → Prop} {col : Nat → Option Col} (hsu : Suits F G w true [] S' col) : ∀ {ts : List L} {ls : List Leaf} {x : dens ts} {us : List Value} (j : Nat), leafsR (stab F G.c w) G σ w ls us → asAll σ ts ls = some x → outR S' col w true dp j ts x us
  | [], [], x, us, j, hl, ha => by simpa [outR, leafsR] using hl
  | [], _ :: _, x, us, j, hl, ha => by simp [asAll] at ha
  | _ :: _, [], x, us, j, hl, ha => by simp [asAll] at ha
  | .list e els :: ts, l :: ls, x, us, j, hl, ha => by
    simp only [leafsR] at hl
    obtain ⟨v, vs', rfl, h1, h2⟩ := hl
    simp only [asAll, Option.bind_eq_some_iff, Option.map_eq_some_iff] at ha
    obtain ⟨x1, ha, xr, hr, rfl⟩ := ha
    simp only [outR]
    refine ⟨v, vs', rfl, ?_, by rw [tl_mk]; exact shared_ok h hsu (j + 1) h2 hr⟩
    simp only [if_true]
    rw [hd_mk]
    exact as_in h hsu.1 (hsu.2.1 rfl) h1 ha
  | .int k :: ts, l :: ls, x, us, j, hl, ha | .bool :: ts, l :: ls, x, us, j, hl, ha | .str :: ts, l :: ls, x, us, j, hl, ha => by
    simp only [leafsR] at hl
    obtain ⟨v, vs', rfl, h1, h2⟩ := hl
    simp only [asAll, Option.bind_eq_some_iff, Option.map_eq_some_iff] at ha
    obtain ⟨x1, ha, xr, hr, rfl⟩ := ha
    simp only [outR]
    refine ⟨v, vs', rfl, ?_, by rw [tl_mk]; exact shared_ok h hsu j h2 hr⟩
    rw [hd_mk]
    exact repL_flat rfl (as_now h h1 ha)

def resRun (tmps : Array Value) : ResultVar → Sem Value
  | .tmp t => pure (tmps.getD t undef)
  | .cell a t => do loadVar t (← asAddr (tmps.getD a undef))
theorem resOf_ok (hE : EnvOk P E) (h : Rel F G σ tmps w) {agg : Bool} {rv : ResultVar} {ls : List Leaf} (hr : resOf E σ agg rv = some ls) : ∃ v cs, (resRun tmps rv).run P w = .ok v w ∧ slotV agg cs v ∧ leafsR (stab F G.c w) G σ w ls cs := by
  cases rv with
  | tmp t =>
    simp only [resOf] at hr
    have hs := h.slots t
    split at hr
    · next l hl =>
      rw [hl] at hs
      simp only [slotR] at hs
      cases agg with
      | true => cases hr
      | false =>
        injection hr with hr
        subst hr
        exact ⟨tmps.getD t undef, [tmps.getD t undef], by simp [resRun], by simp [slotV], by simp only [leafsR]; exact ⟨_, [], rfl, hs, rfl⟩⟩
    · next ls' hl =>
      rw [hl] at hs
      simp only [slotR] at hs
      obtain ⟨cs, hv, hc, _⟩ := hs
      cases agg with
      | false => cases hr
      | true =>
        injection hr with hr
        subst hr
        exact ⟨tmps.getD t undef, cs, by simp [resRun], by rw [hv]; simp [slotV], hc⟩
    · cases hr
  | cell ad t =>
    simp only [resOf] at hr
    have hs := h.slots ad
    split at hr
    · next b hb =>
      rw [hb] at hs
      simp only [slotR, leafR] at hs
      obtain ⟨_, hv⟩ := hs
      obtain ⟨i, hi, hr⟩ := Option.bind_eq_some_iff.1 hr
      obtain ⟨hag, hr⟩ := bif_some hr
      obtain ⟨c, hc, hr⟩ := Option.bind_eq_some_iff.1 hr
      obtain ⟨rfl, hlen⟩ := exact_eq hr
      obtain ⟨t', cur, b1, b2, b3, b4⟩ := h.boxes b _ hc
      obtain ⟨ti, ht1, ht2, hk⟩ := ti_agg (hE.ti hi)
      have hcl : cur.toList.length = i.ls.length := by rw [leafsR_length b3, hlen]
      have hcells : ∀ j u, cur.toList[j]? = some u → w.cell? ((⟨G.bb b, 0, none⟩ : Addr).add j) = some u := fun j u hu => by
        rw [addr_add, cell_row b1]; simpa using hu
      rcases hk with ⟨hst, fs, hu⟩ | ⟨hst, hl1, d, hu, hn1, hn2⟩
      · rw [hst] at hag
        have hag : agg = true := hag
        subst hag
        refine ⟨.agg cur, cur.toList, ?_, by simp [slotV], b3⟩
        have hlc := run_loadCells_list (P := P) w _ cur.toList hcells
        rw [hcl, ← ht2] at hlc
        simp [resRun, hv, asAddr, loadVar, isAgg, run_underlying hu, sizeOf, typeInfo, ht1, hlc]
      · rw [hst] at hag
        have hag : agg = false := by simpa using hag
        subst hag
        obtain ⟨u, hu1⟩ := List.length_eq_one_iff.1 (hcl.trans hl1)
        refine ⟨u, [u], ?_, by simp [slotV], by rw [← hu1]; exact b3⟩
        have hcell : w.cell? ⟨G.bb b, 0, none⟩ = some u := by
          have := hcells 0 u (by rw [hu1]; rfl)
          simpa [Addr.add] using this
        have hagg : (isAgg t).run P w = .ok false w := by
          simp only [isAgg, Sem.run_bind, run_underlying hu, Result.andThen_ok]
          cases d <;> first | rfl | exact absurd rfl (hn1 _) | exact absurd rfl (hn2 _ _)
        simp [resRun, hv, asAddr, loadVar, hagg, hcell]
    · cases hr

theorem out_ok (hE : EnvOk P E) (h : Rel F G σ0 tmps w) {sh : Bool} : ∀ {rs : List (Bool × List L)} {vs : List ResultVar} {x : caps (snds rs)} {σ σ' : St} (j : Nat), (∀ r g, σ.reg? r = some g → σ0.reg? r = some g) → Rel F G σ tmps w → outRes E sh σ rs vs = some (x, σ') →
    ∃ us L, (vs.mapM (resRun tmps)).run P w = .ok us w ∧ Moved σ σ' L ∧ (sh = true → L = []) ∧ ∀ S' col, Suits F G w sh L S' col → resR S' col w sh E.deep rs x j us
  | [], [], x, σ, σ', j, hs, hR, ho => by
    simp only [outRes, Option.some.injEq] at ho
    obtain ⟨_, rfl⟩ := Prod.mk.inj ho
    exact ⟨[], [], by simp, Moved.refl, fun _ => rfl, fun S' col _ => by simp [resR]⟩
  | [], _ :: _, x, σ, σ', j, hs, hR, ho => by simp [outRes] at ho
  | _ :: _, [], x, σ, σ', j, hs, hR, ho => by simp [outRes] at ho
  | p :: rs, rv :: vs, x, σ, σ', j, hs, hR, ho => by
    simp only [outRes, Option.bind_eq_some_iff, Option.map_eq_some_iff] at ho
    obtain ⟨ls, hls, x1, ha, σ1, hm, ⟨xr, σ2⟩, hrest, hx⟩ := ho
    simp only [Prod.mk.injEq] at hx
    obtain ⟨rfl, rfl⟩ := hx
    obtain ⟨v, cs, hrun, hsl, hleafs⟩ := resOf_ok hE hR hls
    obtain ⟨L1, hM1, hsh1, hout1⟩ : ∃ L, Moved σ σ1 L ∧ (sh = true → L = []) ∧ ∀ S' col, Suits F G w sh L S' col → outR S' col w sh E.deep j p.2 x1 cs := by
      cases sh with
      | true =>
        have : σ = σ1 := by simpa using hm
        subst this
        exact ⟨[], Moved.refl, fun _ => rfl, fun S' col hsu => shared_ok hR hsu j hleafs ha⟩
      | false =>
        obtain ⟨L, hL, _, _, hout⟩ := moveAll_ok hR j hleafs ha (fun _ _ h => h) (by simpa using hm)
        exact ⟨L, hL, by simp, hout⟩
    have hR1 : Rel F G σ1 tmps w := by
      cases sh with
      | true =>
        have : σ = σ1 := by simpa using hm
        subst this
        exact hR
      | false => exact (moveAll_rel hR (by simpa using hm)).1
    obtain ⟨us, L2, hrun2, hM2, hsh2, hout2⟩ := out_ok hE h (j + 16) (fun r g hg => hs r g (hM1.sub r g hg)) hR1 hrest
    refine ⟨v :: us, L1 ++ L2, ?_, hM1.trans hM2, fun hh => by rw [hsh1 hh, hsh2 hh]; rfl, fun S' col hsu => ?_⟩
    · simp [List.mapM_cons, hrun, hrun2]
    · simp only [resR]
      exact ⟨v, us, cs, rfl, by rw [chd_cmk]; exact hout1 S' col hsu.left, .inr hsl, by rw [ctl_cmk]; exact hout2 S' col hsu.right⟩
end
end Go.Ev
end

section
/- The small machine is true to the model, last part: a function's contract out of what it comes to. -/
set_option linter.unusedVariables false
namespace Go.Ev
open Go.RowKit

section
variable {P : Program} {E : Env} {F : Fm} {G : Gh} {σ : St} {a : Act} {w : World} {tmps : Array Value} {H : Nat → List CT} {S T : Nat → Prop}

theorem ro_sub (hST : ∀ b, S b → T b) {p : Col} {e : TypeId} {sz n : Nat} {v : Value} {cs : List Value} (h : roRow w S p e sz n v cs) : roRow w T p e sz n v cs := ro_mono (fun b hb => ⟨hST b hb, rfl⟩) h
theorem enter_caps (hST : ∀ b, S b → T b) : ∀ {cs : List (List L)} {x : caps cs} {vs : List Value}, capsR S w cs x vs → leafsR T G σ w (capSlots cs x) vs
  | [], _, _, h => by simpa [capsR, capSlots, leafsR] using h
  | t :: ts, x, _, h => by
    simp only [capsR] at h
    obtain ⟨v, vs', rfl, ⟨ad, cs, hv, hs, hc, hr⟩, h2⟩ := h
    simp only [capSlots, leafsR, leafR]
    exact ⟨v, vs', rfl, ⟨ad, cs, by rw [addr_zero]; exact hv, hST _ hs, hc, repLs_map (fun _ _ _ _ _ _ _ => ro_sub hST) hr⟩, enter_caps hST h2⟩
theorem leafs_length : ∀ {ls : List L} (x : dens ls), (leafs ls x).length = ls.length
  | [], _ => rfl
  | t :: ts, x => by simp [leafs, leafs_length (tl x)]
theorem enter_ok (hST : ∀ b, S b → T b) : ∀ {ps : List PT} {x : pts ps} {vs : List Value}, argsR S w ps x vs → slotsR T G σ w (enter ps x) vs
  | [], _, _, h => by simpa [argsR, enter, slotsR] using h
  | .v agg m ts :: ps, x, _, h => by
    simp only [argsR] at h
    obtain ⟨v, vs', rfl, ⟨cs, hr, hsl⟩, h2⟩ := h
    have hr' : repLs (roRow w T) ts [] 0 0 (phd x) cs := repLs_map (fun _ _ _ _ _ _ _ => ro_sub hST) hr
    have hl := leafsR_of_rep (G := G) (σ := σ) hr'
    simp only [enter, slotsR]
    refine ⟨v, vs', rfl, ?_, enter_ok hST h2⟩
    cases agg with
    | true =>
      simp only [slotV, if_true] at hsl
      simp only [cellOrAgg, cond_true, slotR]
      exact ⟨cs, hsl, hl, repLs_one roRow_one hr'⟩
    | false =>
      simp only [slotV, Bool.false_eq_true, if_false] at hsl
      subst hsl
      have h1 : (leafs ts (phd (t := .v false m ts) x)).length = 1 := (leafs_length (ls := ts) (phd (t := .v false m ts) x)).trans (by simpa using (repLs_length hr').symm)
      obtain ⟨l, hl1⟩ := List.length_eq_one_iff.1 h1
      simp only [cellOrAgg, cond_false]
      have hl1' : leafs ts (phd (t := .v false m ts) x) = [l] := hl1
      rw [hl1']
      simp only [slotR]
      rw [hl1] at hl
      simp only [leafsR] at hl
      obtain ⟨v', vs'', e, h3, _⟩ := hl
      have : v = v' := by simpa using (List.cons.inj e).1
      rw [this]; exact h3
  | .p io ts :: ps, x, _, h => by
    simp only [argsR] at h
    obtain ⟨v, vs', rfl, ⟨ad, cs, hv, hs, hc, hr⟩, h2⟩ := h
    simp only [enter, slotsR, slotR, leafR]
    exact ⟨v, vs', rfl, ⟨ad, cs, by rw [addr_zero]; exact hv, hST _ hs, hc, repLs_map (fun _ _ _ _ _ _ _ => ro_sub hST) hr⟩, enter_ok hST h2⟩
  | .c f cs :: ps, x, _, h => by
    simp only [argsR] at h
    obtain ⟨v, vs', rfl, ⟨cvs, hv, hc⟩, h2⟩ := h
    simp only [enter, slotsR, slotR, leafR]
    exact ⟨v, vs', rfl, ⟨cvs, hv, enter_caps hST hc⟩, enter_ok hST h2⟩

theorem pad_length {α : Type} (d : α) : ∀ (n : Nat) (l : List α), (pad d n l).length = max n l.length
  | 0, l => by simp [pad]
  | n + 1, [] => by simp [pad, pad_length d n]
  | n + 1, b :: l => by simp [pad, pad_length d n]
theorem pad_nth {α : Type} (d : α) : ∀ (n : Nat) (l : List α) (i : Nat), nth d (pad d n l) i = nth d l i
  | 0, l, i => rfl
  | n + 1, [], 0 => rfl
  | n + 1, [], i + 1 => by
    have := pad_nth d n [] i
    simp only [pad, nth]
    exact this
  | n + 1, b :: l, 0 => rfl
  | n + 1, b :: l, i + 1 => by simp only [pad, nth]; exact pad_nth d n l i
theorem slotsR_get : ∀ {ss : List Slot} {vs : List Value}, slotsR T G σ w ss vs → ∀ i, slotR T G σ w (nth (.cell .junk) ss i) (vs.getD i undef)
  | [], _, _, i => by simp only [nth, slotR, leafR]
  | s :: ss, _, h, 0 => by
    simp only [slotsR] at h
    obtain ⟨v, vs', rfl, h1, _⟩ := h
    exact h1
  | s :: ss, _, h, i + 1 => by
    simp only [slotsR] at h
    obtain ⟨v, vs', rfl, _, h2⟩ := h
    simpa [nth] using slotsR_get h2 i

theorem ct_ok (hE : EnvOk P E) (hC : EnvCts P E w w.heap.size) {fn : Func} {c : Ct} (hf : P.funcs[c.f]? = some fn) (hname : (fn.name == "runtime.NumGoroutine") = false)
    (hdp : E.deep = c.deep) (hev : ∀ x, c.pre x → evalFn E H fn c.ps c.rs c.shared x fun r => r = c.F x) : CtAt P c w := by
  obtain ⟨f, ps, rs, shared, pre, Fn, deep⟩ := c
  have hdp : E.deep = deep := hdp
  subst hdp
  intro vals x S hS hargs hpre
  have h0 := hev x hpre
  unfold evalFn at h0
  obtain ⟨body, hbody⟩ : ∃ b, fn.body = some b := by
    cases hb : fn.body with
    | none => rw [hb] at h0; exact h0.elim
    | some b => exact ⟨b, rfl⟩
  refine ⟨⟨fn, hf, hname, by rw [hbody]; rfl⟩, ?_⟩
  rw [hbody] at h0
  simp only at h0
  refine calls_of_wp hf hbody ?_
  -- the frame
  let F : Fm := { w0 := w, S := S }
  let G : Gh := ⟨fun _ => none, fun _ => 0, fun _ => undef⟩
  have hent := enter_ok (G := G) (σ := { slots := pad (.cell .junk) fn.ntmps (enter ps x), boxes := [], regs := [] }) (T := stab F G.c w) (fun b hb => .inl hb) hargs
  have hlen : vals.size = (enter ps x).length := by
    have := slotsR_length hent
    simpa using this
  have hR : Rel F G { slots := pad (.cell .junk) fn.ntmps (enter ps x), boxes := [], regs := [] } (vals ++ Array.replicate (fn.ntmps - vals.size) undef) w := {
    below := BelowO.refl _ _
    hS := ⟨Nat.le_refl _, fun b hb => hb.elim, fun b hb => ⟨hS b hb, fun h => h⟩⟩
    col := fun b hb => absurd rfl hb
    boxes := fun b c hc => by cases hc
    regs := fun r g hg => by cases hg
    hol := fun r g hg => by cases hg
    slots := fun i => by
      rw [pad_nth]
      have := slotsR_get hent i
      have e : (vals ++ Array.replicate (fn.ntmps - vals.size) undef).getD i undef = vals.toList.getD i undef := by
        rw [Array.getD_eq_getD_getElem?, List.getD_eq_getElem?_getD, Array.getElem?_append, Array.getElem?_toList]
        split
        · rfl
        · next hi =>
          have : vals[i]? = none := Array.getElem?_eq_none (by omega)
          rw [this, Array.getElem?_replicate]
          split <;> rfl
      rw [e]; exact this
    nslots := by
      rw [pad_length, ← hlen]
      simp only [Array.size_append, Array.size_replicate]
      omega }
  refine evalCode_ok (F := F) hE hC body (fun d _ p hp => by cases hp) ⟨G, hR, rfl, fun p hp => by cases hp⟩ h0 fun e n' σ' a' w' hk hok hext => ?_
  obtain ⟨G', hR', hd⟩ := hok
  have hend : (match outRes E shared σ' rs fn.results.toList with
      | none => False
      | some (r, _) => r = Fn x) → a'.defers = [] ∧ ∃ v, (results fn a'.tmps).run P w' = .ok v w' ∧ (fun e w' => ∃ vs v col, e = Ending.returned v ∧ Below w.heap.size w w' ∧ retV vs v ∧ (∀ b, col b ≠ none → w.heap.size ≤ b ∧ b < w'.heap.size) ∧
        resR (fun b => S b ∨ (w.heap.size ≤ b ∧ b < w'.heap.size ∧ col b = none)) col w' shared E.deep rs (Fn x) 0 vs) (Ending.returned v) w' := fun hm => by
    split at hm
    · exact hm.elim
    · next r τ hout =>
      subst hm
      obtain ⟨us, L, hrun, hM, hsh, hres⟩ := out_ok hE hR' 0 (fun _ _ h => h) hR' hout
      let col : Nat → Option Col := shiftC G'.c L
      have hcol : ∀ b, col b ≠ none → G'.c b ≠ none := fun b hb hc => by
        exact hb (shiftC_none hc)
      refine ⟨hd.1, (if h : us.length = 1 then us[0] else .tuple us.toArray), ?_, us, _, col, rfl, hR'.below.below, ?_, fun b hb => ⟨(hR'.col b (hcol b hb)).1.resolve_right fun h => h, (hR'.col b (hcol b hb)).2⟩, hres _ col ⟨fun b hb => ?_, fun hs b hb => ?_, fun p hp b l hb => ?_⟩⟩
      · have e : fn.results.mapM (resRun a'.tmps) = List.toArray <$> fn.results.toList.mapM (resRun a'.tmps) := Array.mapM_eq_mapM_toList
        have hr2 : (fn.results.mapM (resRun a'.tmps)).run P w' = .ok us.toArray w' := by
          rw [e]
          simp [hrun]
        have key : ∀ f : ResultVar → Sem Value, (∀ rv, f rv = resRun a'.tmps rv) → (fn.results.mapM f).run P w' = .ok us.toArray w' := fun f hf => by
          rw [show f = resRun a'.tmps from funext hf]; exact hr2
        unfold results
        rw [Sem.run_bind, key _ (fun rv => by cases rv <;> rfl)]
        simp only [Result.andThen_ok, Sem.run_pure, List.size_toArray]
        by_cases h1 : us.length = 1 <;> simp [h1]
      · unfold retV
        by_cases h1 : us.length = 1
        · left
          rw [dif_pos h1]
          obtain ⟨u, rfl⟩ := List.length_eq_one_iff.1 h1
          rfl
        · right
          rw [dif_neg h1]
          exact ⟨h1, rfl⟩
      · rcases hb with hb | hb
        · exact .inl hb
        · refine .inr ⟨hb.1.resolve_right fun h => h, hb.2.1, ?_⟩
          exact shiftC_none hb.2.2
      · have h1 := hR'.col b hb
        refine .inr ⟨h1.1.resolve_right fun h => h, h1.2, ?_⟩
        cases hq : col b with
        | none => rfl
        | some q =>
          obtain ⟨l, r, j, _, h4, _⟩ := shiftC_some hq
          rw [hsh hs] at h4
          cases h4
      · exact shiftC_of hb (look_pairs hM.once hp)
  cases e with
  | normal => exact hend hk
  | exit id => exact hk.elim
  | ret => exact hend hk
end
end Go.Ev
end

section
/- The small machine is true to the model: the contract of a function that writes the rows that it is handed. -/
set_option linter.unusedVariables false
namespace Go.Ev
open Go.RowKit

section
variable {P : Program} {E : Env} {F : Fm} {G G' : Gh} {σ σ' : St} {a : Act} {w w' : World} {tmps : Array Value} {H : Nat → List CT} {S T : Nat → Prop}

theorem keep_other (ss : List Slot) : Keep F G σ w G { σ with slots := ss } w := ⟨BelowO.refl _ _, fun b hb => ⟨hb, rfl⟩, fun b hb => ⟨hb, rfl⟩, fun r hr => ⟨hr, rfl, fun g' hg' => ⟨g', hg', rfl, rfl⟩⟩⟩
theorem enter1_ok (hST : ∀ b, S b → T b) {p : PT} {x : p.den} {v : Value} (h : argR S w p x v) : slotR T G σ w (enter1 p x) v := by
  have h2 : slotsR T G σ w (enter [p] x) [v] := enter_ok hST (ps := [p]) (x := x) (by simp only [argsR]; exact ⟨v, [], rfl, h, rfl⟩)
  have e : enter [p] x = [enter1 p x] := by rcases p with ⟨agg, m, ts⟩ | _ | _ <;> rfl
  rw [e] at h2
  simp only [slotsR] at h2
  obtain ⟨v', vs', hv, h3, _⟩ := h2
  have : v = v' := by simpa using (List.cons.inj hv).1
  rw [this]; exact h3

theorem enterM_ok {dp : Bool} {col : Nat → Option Col} : ∀ {ps : List PT} {x : pts ps} {j : Nat} {vs : List Value} {G : Gh} {σ σ' : St} {ss : List Slot}, Rel F G σ tmps w → (∀ b, S b → F.S b) → (∀ b l j, col b = some (l ++ [(j, 0)]) → G.c b = some (l ++ [(j, 0)])) →
    argsMR S col w dp ps x j vs → enterM dp ps x j σ = some (ss, σ') → ∃ G', Rel F G' σ' tmps w ∧ Keep F G σ w G' σ' w ∧ G'.c = G.c ∧ slotsR (stab F G'.c w) G' σ' w ss vs
  | [], x, j, vs, G, σ, σ', ss, h, hS, hc, ha, he => by
    simp only [argsMR] at ha
    simp only [enterM, Option.some.injEq] at he
    obtain ⟨rfl, rfl⟩ := Prod.mk.inj he
    exact ⟨G, h, Keep.refl _ _ _ _, rfl, by simpa [slotsR] using ha⟩
  | p :: ps, x, j, vs, G, σ, σ', ss, h, hS, hc, ha, he => by
    simp only [argsMR] at ha
    obtain ⟨v, vs', rfl, h1, h2⟩ := ha
    have plain : argR S w p (phd x) v → (enterM dp ps (ptl x) (j + 16) σ).map (fun r => (enter1 p (phd x) :: r.1, r.2)) = some (ss, σ') →
        ∃ G', Rel F G' σ' tmps w ∧ Keep F G σ w G' σ' w ∧ G'.c = G.c ∧ slotsR (stab F G'.c w) G' σ' w ss (v :: vs') := fun h1 he => by
      obtain ⟨⟨ss', σ2⟩, he2, hx⟩ := Option.map_eq_some_iff.1 he
      obtain ⟨rfl, rfl⟩ := Prod.mk.inj hx
      obtain ⟨G', hR, k, e1, hl⟩ := enterM_ok h hS hc h2 he2
      refine ⟨G', hR, k, e1, ?_⟩
      simp only [slotsR]
      exact ⟨v, vs', rfl, enter1_ok (fun b hb => .inl (hS b hb)) h1, hl⟩
    rcases p with ⟨agg, m, ts⟩ | ⟨io, ts⟩ | ⟨f, cs⟩
    · cases m with
      | io =>
        simp only [argMR] at h1
        obtain ⟨cs, ho, hsl⟩ := h1
        simp only [enterM, Option.bind_eq_some_iff, Option.map_eq_some_iff] at he
        obtain ⟨⟨ls, σ1⟩, hf1, s, hs, ⟨ss', σ2⟩, hf2, hx⟩ := he
        obtain ⟨rfl, rfl⟩ := Prod.mk.inj hx
        obtain ⟨G1, hR1, k1, e1, hl1⟩ := fresh_ok (S := S) (sh := false) (id := 0) h (fun b l j hj => by rw [Nat.zero_add]; exact hc b l j hj) (.inl fun b hb => .inl (hS b hb)) ho hf1
        obtain ⟨G2, hR2, k2, e2, hl2⟩ := enterM_ok hR1 hS (by rw [e1]; exact hc) h2 hf2
        refine ⟨G2, hR2, k1.trans k2, e2.trans e1, ?_⟩
        simp only [slotsR]
        refine ⟨v, vs', rfl, slotR_keep k2 ?_, hl2⟩
        rcases slotOf_ok hs with ⟨ha, rfl⟩ | ⟨ha, l, hl, rfl⟩
        · simp only [slotV, ha, if_true] at hsl
          simp only [slotR]
          exact ⟨cs, hsl, hl1, outR_one ho⟩
        · simp only [slotV, ha, Bool.false_eq_true, if_false] at hsl
          simp only [slotR]
          simp only at hl
          rw [hl, hsl] at hl1
          simp only [leafsR] at hl1
          obtain ⟨v', vs'', e, h3, _⟩ := hl1
          have : v = v' := by simpa using (List.cons.inj e).1
          rw [this]; exact h3
      | ro => exact plain h1 he
      | mv => exact plain h1 he
    · exact plain h1 he
    · exact plain h1 he

def fixFrom : List PT → Nat → List Value → List (Nat × Value)
  | p :: ps, n, v :: vs => bif isIo p then (n, v) :: fixFrom ps (n + 1) vs else fixFrom ps (n + 1) vs
  | _, _, _ => []
theorem fixFrom_mem : ∀ {ps : List PT} {vs : List Value} {n : Nat} {p : Nat × Value}, p ∈ fixFrom ps n vs → ∃ k, p.1 = n + k ∧ vs[k]? = some p.2
  | [], _, n, p, h => by simp [fixFrom] at h
  | _ :: _, [], n, p, h => by simp [fixFrom] at h
  | q :: ps, v :: vs, n, p, h => by
    have tail : p ∈ fixFrom ps (n + 1) vs → ∃ k, p.1 = n + k ∧ (v :: vs)[k]? = some p.2 := fun h => by
      obtain ⟨k, h1, h2⟩ := fixFrom_mem h
      exact ⟨k + 1, by omega, by simpa using h2⟩
    simp only [fixFrom] at h
    cases hi : isIo q with
    | true =>
      rw [hi] at h
      rcases List.mem_cons.1 h with rfl | h
      · exact ⟨0, rfl, rfl⟩
      · exact tail h
    | false => rw [hi] at h; exact tail h
theorem fixFrom_free {D : List Nat} : ∀ {ps : List PT} {vs : List Value} {n : Nat} {p : Nat × Value}, ioFree D ps n = true → p ∈ fixFrom ps n vs → p.1 ∉ D
  | [], _, n, p, _, h => by simp [fixFrom] at h
  | _ :: _, [], n, p, _, h => by simp [fixFrom] at h
  | q :: ps, v :: vs, n, p, hD, h => by
    simp only [ioFree, Bool.and_eq_true, Bool.or_eq_true, Bool.not_eq_true'] at hD
    simp only [fixFrom] at h
    cases hi : isIo q with
    | true =>
      rw [hi] at h
      rcases List.mem_cons.1 h with rfl | h
      · rcases hD.1 with h1 | h1
        · rw [hi] at h1; cases h1
        · intro hm
          rw [memN_iff.2 hm] at h1; cases h1
      · exact fixFrom_free hD.2 h
    | false => rw [hi] at h; exact fixFrom_free hD.2 h
theorem outM_ok {dp : Bool} {col : Nat → Option Col} {σ0 : St} (hR : Rel F G σ0 tmps w') : ∀ {ps : List PT} {x y : pts ps} {vs : List Value} {i j : Nat} {σ σ' : St}, (∀ r g, σ.reg? r = some g → σ0.reg? r = some g) → argsMR S col w dp ps x j vs → (∀ p ∈ fixFrom ps i vs, tmps.getD p.1 undef = p.2) → outM dp σ0 σ ps i x = some (y, σ') →
    ∃ M, Moved σ σ' M ∧ ∀ col', Suits F G w' false M (fun _ => True) col' → backsR col' w' dp ps y j vs
  | [], x, y, vs, i, j, σ, σ', hsub, ha, hf, ho => by
    simp only [outM, Option.some.injEq] at ho
    obtain ⟨_, rfl⟩ := Prod.mk.inj ho
    exact ⟨[], Moved.refl, fun col' _ => by simp only [backsR]⟩
  | p :: ps, x, y, vs, i, j, σ, σ', hsub, ha, hf, ho => by
    simp only [argsMR] at ha
    obtain ⟨v, vs', rfl, h1, h2⟩ := ha
    have hf' : ∀ q ∈ fixFrom ps (i + 1) vs', tmps.getD q.1 undef = q.2 := fun q hq => hf q (by
      simp only [fixFrom]
      cases isIo p with
      | true => exact List.mem_cons_of_mem _ hq
      | false => exact hq)
    have plain : (∀ c z, backR c w' dp j p z v) → ((outM dp σ0 σ ps (i + 1) (ptl x)).map fun r => (pmk (phd x) r.1, r.2)) = some (y, σ') → ∃ M, Moved σ σ' M ∧ ∀ col', Suits F G w' false M (fun _ => True) col' → backsR col' w' dp (p :: ps) y j (v :: vs') := fun hb ho => by
      obtain ⟨⟨r, σr⟩, hr, hx⟩ := Option.map_eq_some_iff.1 ho
      obtain ⟨rfl, rfl⟩ := Prod.mk.inj hx
      obtain ⟨M, hM, hout⟩ := outM_ok hR hsub h2 hf' hr
      refine ⟨M, hM, fun col' hsu => ?_⟩
      simp only [backsR]
      exact ⟨v, vs', rfl, hb _ _, by rw [ptl_pmk]; exact hout col' hsu⟩
    rcases p with ⟨agg, m, ts⟩ | ⟨io, ts⟩ | ⟨f, cs⟩
    · cases m with
      | io =>
        simp only [argMR] at h1
        obtain ⟨cs, o1, hsl⟩ := h1
        simp only [outM, Option.bind_eq_some_iff, Option.map_eq_some_iff] at ho
        obtain ⟨ls, hls, z, hz, σm, hm, ⟨r, σr⟩, hr, hx⟩ := ho
        obtain ⟨rfl, rfl⟩ := Prod.mk.inj hx
        have hv : tmps.getD i undef = v := hf (i, v) (by simp [fixFrom, isIo])
        have hs := hR.slots i
        rw [hv] at hs
        obtain ⟨cs2, hleafs, hsl2⟩ := slotLeafs_ok hs hls
        have := slotV_inj hsl hsl2
        subst this
        obtain ⟨M1, hM1, _, _, hout1⟩ := moveAll_ok hR j hleafs hz hsub hm
        obtain ⟨M2, hM2, hout2⟩ := outM_ok hR (fun r g hg => hsub r g (hM1.sub r g hg)) h2 hf' hr
        refine ⟨M1 ++ M2, hM1.trans hM2, fun col' hsu => ?_⟩
        simp only [backsR]
        have e1 : phd (pmk (t := .v agg .io ts) z r) = z := phd_pmk (t := .v agg .io ts) z r
        have e2 : ptl (pmk (t := .v agg .io ts) z r) = r := ptl_pmk (t := .v agg .io ts) z r
        exact ⟨v, vs', rfl, (congrArg (fun z : dens ts => backR col' w' dp j (.v agg .io ts) z v) e1).mpr ⟨cs, hout1 _ col' hsu.left, hsl⟩,
          (congrArg (fun z : pts ps => backsR col' w' dp ps z (j + 16) vs') e2).mpr (hout2 col' hsu.right)⟩
      | ro => exact plain (fun _ _ => trivial) ho
      | mv => exact plain (fun _ _ => trivial) ho
    · exact plain (fun _ _ => trivial) ho
    · exact plain (fun _ _ => trivial) ho

theorem argsMR_length {dp : Bool} {col : Nat → Option Col} : ∀ {ps : List PT} {x : pts ps} {j : Nat} {vs : List Value}, argsMR S col w dp ps x j vs → vs.length = ps.length
  | [], _, _, _, h => by simp only [argsMR] at h; subst h; rfl
  | p :: ps, _, _, _, h => by
    simp only [argsMR] at h
    obtain ⟨v, vs', rfl, _, h2⟩ := h
    simp [argsMR_length h2]

theorem flat_out {T' : Nat → Prop} {col col' : Nat → Option Col} {sh dp dp' : Bool} : ∀ {ts : List L} {x : dens ts} {j j' : Nat} {cs : List Value}, flat ts = true → outR S col w sh dp j ts x cs → outR T' col' w' sh dp' j' ts x cs
  | [], _, _, _, _, _, h => by simpa [outR] using h
  | .list _ _ :: _, _, _, _, _, hf, _ => by simp [flat, allB, flatL] at hf
  | .int _ :: ts, _, _, _, _, hf, h | .bool :: ts, _, _, _, _, hf, h | .str :: ts, _, _, _, _, hf, h => by
    simp only [outR] at h ⊢
    obtain ⟨v, vs', rfl, h1, h2⟩ := h
    exact ⟨v, vs', rfl, repL_flat rfl h1, flat_out (allB_cons hf).2 h2⟩
theorem flat_res {T' : Nat → Prop} {col col' : Nat → Option Col} {sh dp dp' : Bool} : ∀ {rs : List (Bool × List L)} {x : caps (snds rs)} {j j' : Nat} {vs : List Value}, allB (fun r => flat r.2) rs = true → resR S col w sh dp rs x j vs → resR T' col' w' sh dp' rs x j' vs
  | [], _, _, _, _, _, h => by simpa [resR] using h
  | r :: rs, _, _, _, _, hf, h => by
    simp only [resR] at h ⊢
    obtain ⟨v, vs', cs, rfl, h1, h2, h3⟩ := h
    exact ⟨v, vs', cs, rfl, flat_out (allB_cons hf).1 h1, h2, flat_res (allB_cons hf).2 h3⟩

theorem ctm_ok {n : Nat} (hE : EnvOk P E) (hC : EnvCts P E w n) {fn : Func} {c : CtM} (hf : P.funcs[c.f]? = some fn) (hname : (fn.name == "runtime.NumGoroutine") = false)
    (hdp : E.deep = c.deep) (hev : ∀ x, c.pre x → evalM E H fn c.ps c.rs x fun r y => r = c.F x ∧ y = c.W x) (hq : c.q = false := by rfl) : CtMAt P c n w := by
  refine CtMAt.ofPlain ?_ hq
  obtain ⟨f, ps, rs, pre, Fn, Wn, deep, q⟩ := c
  have hdp : E.deep = deep := hdp
  subst hdp
  intro hn vals x S col hS hO hargs hpre
  have h0 := hev x hpre
  unfold evalM at h0
  obtain ⟨body, hbody⟩ : ∃ b, fn.body = some b := by
    cases hb : fn.body with
    | none => rw [hb] at h0; exact h0.elim
    | some b => exact ⟨b, rfl⟩
  refine ⟨⟨fn, hf, hname, by rw [hbody]; rfl⟩, ?_⟩
  rw [hbody] at h0
  simp only at h0
  refine calls_of_wp hf hbody ?_
  cases hchk : (ioFree (pdsts body) ps 0 && allB (fun r => flat r.2) rs) with
  | false => rw [hchk] at h0; exact h0.elim
  | true =>
  rw [hchk] at h0
  simp only [Bool.not_true, cond_false] at h0
  simp only [Bool.and_eq_true] at hchk
  obtain ⟨hpar, hfl⟩ := hchk
  split at h0
  · exact h0.elim
  next ss σ0 hent =>
  have hlenp : vals.toList.length = ps.length := argsMR_length hargs
  let F : Fm := { w0 := w, S := S, n0 := n, O := fun b => col b ≠ none, fix := fixFrom ps 0 vals.toList }
  let G : Gh := ⟨col, fun _ => 0, fun _ => undef⟩
  have hR0 : Rel F G { slots := [], boxes := [], regs := [] } #[] w := {
    below := BelowO.refl _ _
    hS := ⟨hn, fun b hb => hO b hb, fun b hb => ⟨(hS b hb).1, fun h => h (hS b hb).2⟩⟩
    col := fun b hb => by
      have hb' : col b ≠ none := hb
      exact ⟨.inr hb', (hO b hb').2⟩
    boxes := fun b c hc => by cases hc
    regs := fun r g hg => by cases hg
    hol := fun r g hg => by cases hg
    slots := fun i => by simp only [nth, slotR, leafR]
    nslots := rfl }
  obtain ⟨G1, hR1, _, e1, hslots⟩ := enterM_ok (S := S) (col := col) hR0 (fun b hb => hb) (fun b l j hj => hj) hargs hent
  have hlen : vals.size = ss.length := by
    have := slotsR_length hslots
    simpa using this
  have hR : Rel F G1 { σ0 with slots := pad (.cell .junk) fn.ntmps ss } (vals ++ Array.replicate (fn.ntmps - vals.size) undef) w := {
    below := hR1.below
    hS := hR1.hS
    col := hR1.col
    boxes := fun b c hc => by
      obtain ⟨t, cur, b1, b2, b3, b4⟩ := hR1.boxes b c hc
      exact ⟨t, cur, b1, b2, leafsR_keep (keep_other _) b3, b4⟩
    regs := fun r g hg => hR1.regs r g hg
    hol := fun r g hg => hR1.hol r g hg
    slots := fun i => by
      rw [pad_nth]
      have := slotsR_get hslots i
      have e : (vals ++ Array.replicate (fn.ntmps - vals.size) undef).getD i undef = vals.toList.getD i undef := by
        rw [Array.getD_eq_getD_getElem?, List.getD_eq_getElem?_getD, Array.getElem?_append, Array.getElem?_toList]
        split
        · rfl
        · next hi =>
          have : vals[i]? = none := Array.getElem?_eq_none (by omega)
          rw [this, Array.getElem?_replicate]
          split <;> rfl
      rw [e]; exact slotR_keep (keep_other _) this
    nslots := by
      rw [pad_length, ← hlen]
      simp only [Array.size_append, Array.size_replicate]
      omega }
  have hfree : ∀ d ∈ pdsts body, F.free d := fun d hd p hp e => fixFrom_free hpar hp (by rw [e]; exact hd)
  have hcalm : ∀ p ∈ F.fix, (vals ++ Array.replicate (fn.ntmps - vals.size) undef).getD p.1 undef = p.2 := fun p hp => by
    obtain ⟨k, h1, h2⟩ := fixFrom_mem hp
    rw [h1, Nat.zero_add, Array.getD_eq_getD_getElem?, Array.getElem?_append]
    rw [Array.getElem?_toList] at h2
    have := (Array.getElem?_eq_some_iff.1 h2).1
    rw [if_pos this, h2]
    rfl
  refine evalCode_ok (F := F) hE hC body hfree ⟨G1, hR, rfl, hcalm⟩ h0 fun e n' σ' a' w' hk hok hext => ?_
  obtain ⟨G', hR', hd⟩ := hok
  have hend : (match outRes E false σ' rs fn.results.toList with
      | none => False
      | some (r, _) => match outM E.deep σ' σ' ps 0 x with
        | none => False
        | some (y, _) => r = Fn x ∧ y = Wn x) → a'.defers = [] ∧ ∃ v, (results fn a'.tmps).run P w' = .ok v w' ∧ (fun e w' => ∃ vs v col', e = Ending.returned v ∧ Below n w w' ∧ (∀ b, b < w.heap.size → col b = none → w'.heap[b]? = w.heap[b]?) ∧ retV vs v ∧
        (∀ b, col' b ≠ none → (w.heap.size ≤ b ∨ col b ≠ none) ∧ b < w'.heap.size) ∧
        resR (fun _ => False) (fun _ => none) w' false false rs (Fn x) 0 vs ∧ backsR col' w' E.deep ps (Wn x) 0 vals.toList) (Ending.returned v) w' := fun hm => by
    split at hm
    · exact hm.elim
    · next r τ hout =>
      split at hm
      · exact hm.elim
      · next y τ2 hy =>
      obtain ⟨hm1, hm2⟩ := hm
      subst hm1 hm2
      obtain ⟨us, L, hrun, hM, hsh, hres⟩ := out_ok hE hR' 0 (fun _ _ h => h) hR' hout
      obtain ⟨M, hMM, hback⟩ := outM_ok hR' (fun _ _ h => h) hargs (fun p hp => hd.2 p hp) hy
      refine ⟨hd.1, (if h : us.length = 1 then us[0] else .tuple us.toArray), ?_, us, _, shiftC G'.c M, rfl, hR'.below.below, fun b hb hc => hR'.below.block b hb fun h => h hc, ?_, fun b hb => ?_,
        flat_res hfl (hres (fun b => b < w'.heap.size) (shiftC G'.c L) ⟨fun b hb => stab_lt hR' hb, by simp, fun p hp b l hb => shiftC_of hb (look_pairs hM.once hp)⟩),
        hback _ ⟨fun _ _ => trivial, by simp, fun p hp b l hb => shiftC_of hb (look_pairs hMM.once hp)⟩⟩
      · have e : fn.results.mapM (resRun a'.tmps) = List.toArray <$> fn.results.toList.mapM (resRun a'.tmps) := Array.mapM_eq_mapM_toList
        have hr2 : (fn.results.mapM (resRun a'.tmps)).run P w' = .ok us.toArray w' := by
          rw [e]
          simp [hrun]
        have key : ∀ f : ResultVar → Sem Value, (∀ rv, f rv = resRun a'.tmps rv) → (fn.results.mapM f).run P w' = .ok us.toArray w' := fun f hf => by
          rw [show f = resRun a'.tmps from funext hf]; exact hr2
        unfold results
        rw [Sem.run_bind, key _ (fun rv => by cases rv <;> rfl)]
        simp only [Result.andThen_ok, Sem.run_pure, List.size_toArray]
        by_cases h1 : us.length = 1 <;> simp [h1]
      · unfold retV
        by_cases h1 : us.length = 1
        · left
          rw [dif_pos h1]
          obtain ⟨u, rfl⟩ := List.length_eq_one_iff.1 h1
          rfl
        · right
          rw [dif_neg h1]
          exact ⟨h1, rfl⟩
      · obtain ⟨l, r, j, h1, _⟩ := shiftC_ne hb
        have := hR'.col b (by rw [h1]; simp)
        exact ⟨this.1, this.2⟩
  cases e with
  | normal => exact hend hk
  | exit id => exact hk.elim
  | ret => exact hend hk
end
end Go.Ev
end

section
/- The small machine is true to the model: the contract of a function that takes rows over, and variables that it writes. -/
set_option linter.unusedVariables false
namespace Go.Ev
open Go.RowKit

section
variable {P : Program} {E : Env} {F : Fm} {G G' : Gh} {σ σ' : St} {a : Act} {w w' : World} {tmps : Array Value} {H : Nat → List CT} {S T : Nat → Prop}

theorem Rel.claimBox (h : Rel F G σ tmps w) {id : Nat} {ls : List Leaf} (hn : newBox σ id ls = some σ') {g : Nat} {cur : Array Value} {t : TypeId} (hh : w.heap[g]? = some (.cells cur t (0, 0))) (hc : G.c g = some [(id, 1)])
    (hl : leafsR (stab F G.c w) G σ w ls cur.toList) (h1 : ∀ u ∈ cur.toList, u.oneCell' = true) :
    Rel F { G with bb := upd G.bb id g } σ' tmps w ∧ Keep F G σ w { G with bb := upd G.bb id g } σ' w ∧ leafR (stab F G.c w) { G with bb := upd G.bb id g } σ' w (.box id 0) (.pointer (some ⟨g, 0, none⟩)) := by
  unfold newBox at hn
  cases hlk : look σ.boxes id with
  | some _ => rw [hlk] at hn; cases hn
  | none =>
    rw [hlk] at hn
    injection hn with hn
    subst hn
    have k : Keep F G σ w { G with bb := upd G.bb id g } (σ.setBox id ls) w := {
      below := BelowO.refl _ _
      st := fun b hb => ⟨hb, rfl⟩
      bx := fun b hb => by
        have hne : id ≠ b := fun e => by subst e; rw [hlk] at hb; cases hb
        exact ⟨by rw [setBox_look]; exact isSome_if hb, upd_ne _ _ (Ne.symm hne)⟩
      rg := fun r hr => ⟨hr, rfl, fun g' hg' => ⟨g', hg', rfl, rfl⟩⟩ }
    refine ⟨h.next k h.col (fun b c hc2 => ?_) (fun r g' hr => .inl ⟨hr, .inr fun b p hb _ => ⟨hb, rfl⟩⟩) (fun i => .inl ⟨rfl, rfl⟩) h.nslots, k, ?_⟩
    · rw [setBox_look] at hc2
      by_cases e : id = b
      · subst e
        rw [if_pos rfl] at hc2
        injection hc2 with hc2
        subst hc2
        refine .inr ⟨t, cur, ?_, ?_, leafsR_keep k hl, h1⟩
        · simp only [upd_same]; exact hh
        · simp only [upd_same]; exact hc
      · rw [if_neg e] at hc2
        exact .inl ⟨hc2, rfl, rfl⟩
    · simp only [leafR, upd_same]
      exact ⟨by rw [setBox_look]; simp, trivial⟩

theorem enterQ1_ok {dp : Bool} {col : Nat → Option Col} {p : PT} {x : p.den} {j : Nat} {v : Value} {s : Slot} (h : Rel F G σ tmps w) (hS : ∀ b, S b → F.S b) (hc : G.c = col) (ha : argQR S col w dp j p x v) (he : enterQ1 dp p x j σ = some (s, σ')) :
    ∃ G', Rel F G' σ' tmps w ∧ Keep F G σ w G' σ' w ∧ G'.c = G.c ∧ slotR (stab F G'.c w) G' σ' w s v := by
  subst hc
  have hroot : ∀ b (l : Col) j, G.c b = some (l ++ [(j, 0)]) → G.c b = some (l ++ [(0 + j, 0)]) := fun b l j hj => by rw [Nat.zero_add]; exact hj
  rcases p with ⟨agg, m, ts⟩ | ⟨io, ts⟩ | ⟨f, cs⟩
  · cases m with
    | mv =>
      simp only [argQR] at ha
      obtain ⟨cs, ho, hsl⟩ := ha
      simp only [enterQ1] at he
      obtain ⟨⟨ls, σ1⟩, hf1, he⟩ := Option.bind_eq_some_iff.1 he
      obtain ⟨s', hs, hx⟩ := Option.map_eq_some_iff.1 he
      obtain ⟨rfl, rfl⟩ := Prod.mk.inj hx
      obtain ⟨G1, hR1, k1, e1, hl1⟩ := fresh_ok (S := S) (sh := false) (id := 0) h hroot (.inl fun b hb => .inl (hS b hb)) ho hf1
      refine ⟨G1, hR1, k1, e1, ?_⟩
      rcases slotOf_ok hs with ⟨ha, rfl⟩ | ⟨ha, l, hl, rfl⟩
      · simp only [slotV, ha, if_true] at hsl
        simp only [slotR]
        exact ⟨cs, hsl, hl1, outR_one ho⟩
      · simp only [slotV, ha, Bool.false_eq_true, if_false] at hsl
        simp only [slotR]
        simp only at hl
        rw [hl, hsl] at hl1
        simp only [leafsR] at hl1
        obtain ⟨v', vs'', e, h3, _⟩ := hl1
        have : v = v' := by simpa using (List.cons.inj e).1
        rw [this]; exact h3
    | io =>
      simp only [enterQ1, Option.some.injEq] at he
      obtain ⟨rfl, rfl⟩ := Prod.mk.inj he
      exact ⟨G, h, Keep.refl _ _ _ _, rfl, enter1_ok (fun b hb => .inl (hS b hb)) ha⟩
    | ro =>
      simp only [enterQ1, Option.some.injEq] at he
      obtain ⟨rfl, rfl⟩ := Prod.mk.inj he
      exact ⟨G, h, Keep.refl _ _ _ _, rfl, enter1_ok (fun b hb => .inl (hS b hb)) ha⟩
  · cases io with
    | true =>
      simp only [argQR] at ha
      obtain ⟨g, cur, t, rfl, hh, hcg, ho⟩ := ha
      simp only [enterQ1] at he
      obtain ⟨⟨ls, σ1⟩, hf1, he⟩ := Option.bind_eq_some_iff.1 he
      obtain ⟨σ2, hn, hx⟩ := Option.map_eq_some_iff.1 he
      obtain ⟨rfl, rfl⟩ := Prod.mk.inj hx
      obtain ⟨G1, hR1, k1, e1, hl1⟩ := fresh_ok (S := S) (sh := false) (id := 0) h hroot (.inl fun b hb => .inl (hS b hb)) ho hf1
      obtain ⟨hR2, k2, hl2⟩ := hR1.claimBox hn hh (by rw [e1]; exact hcg) hl1 (outR_one ho)
      exact ⟨_, hR2, k1.trans k2, e1, by simp only [slotR]; exact hl2⟩
    | false =>
      simp only [enterQ1, Option.some.injEq] at he
      obtain ⟨rfl, rfl⟩ := Prod.mk.inj he
      exact ⟨G, h, Keep.refl _ _ _ _, rfl, enter1_ok (fun b hb => .inl (hS b hb)) ha⟩
  · simp only [enterQ1, Option.some.injEq] at he
    obtain ⟨rfl, rfl⟩ := Prod.mk.inj he
    exact ⟨G, h, Keep.refl _ _ _ _, rfl, enter1_ok (fun b hb => .inl (hS b hb)) ha⟩
theorem enterQ_ok {dp : Bool} {col : Nat → Option Col} : ∀ {ps : List PT} {x : pts ps} {j : Nat} {vs : List Value} {G : Gh} {σ σ' : St} {ss : List Slot}, Rel F G σ tmps w → (∀ b, S b → F.S b) → G.c = col →
    argsQR S col w dp ps x j vs → enterQ dp ps x j σ = some (ss, σ') → ∃ G', Rel F G' σ' tmps w ∧ Keep F G σ w G' σ' w ∧ G'.c = G.c ∧ slotsR (stab F G'.c w) G' σ' w ss vs
  | [], x, j, vs, G, σ, σ', ss, h, hS, hc, ha, he => by
    simp only [argsQR] at ha
    simp only [enterQ, Option.some.injEq] at he
    obtain ⟨rfl, rfl⟩ := Prod.mk.inj he
    exact ⟨G, h, Keep.refl _ _ _ _, rfl, by simpa [slotsR] using ha⟩
  | p :: ps, x, j, vs, G, σ, σ', ss, h, hS, hc, ha, he => by
    simp only [argsQR] at ha
    obtain ⟨v, vs', rfl, h1, h2⟩ := ha
    simp only [enterQ] at he
    obtain ⟨⟨s, σ1⟩, he1, he⟩ := Option.bind_eq_some_iff.1 he
    obtain ⟨⟨ss', σ2⟩, he2, hx⟩ := Option.map_eq_some_iff.1 he
    obtain ⟨rfl, rfl⟩ := Prod.mk.inj hx
    obtain ⟨G1, hR1, k1, e1, hl1⟩ := enterQ1_ok h hS hc h1 he1
    obtain ⟨G2, hR2, k2, e2, hl2⟩ := enterQ_ok hR1 hS (e1.trans hc) h2 he2
    refine ⟨G2, hR2, k1.trans k2, e2.trans e1, ?_⟩
    simp only [slotsR]
    exact ⟨v, vs', rfl, slotR_keep k2 hl1, hl2⟩

def fixQ : List PT → Nat → List Value → List (Nat × Value)
  | p :: ps, n, v :: vs => bif isPtr p then (n, v) :: fixQ ps (n + 1) vs else fixQ ps (n + 1) vs
  | _, _, _ => []
theorem fixQ_mem : ∀ {ps : List PT} {vs : List Value} {n : Nat} {p : Nat × Value}, p ∈ fixQ ps n vs → ∃ k, p.1 = n + k ∧ vs[k]? = some p.2
  | [], _, n, p, h => by simp [fixQ] at h
  | _ :: _, [], n, p, h => by simp [fixQ] at h
  | q :: ps, v :: vs, n, p, h => by
    have tail : p ∈ fixQ ps (n + 1) vs → ∃ k, p.1 = n + k ∧ (v :: vs)[k]? = some p.2 := fun h => by
      obtain ⟨k, h1, h2⟩ := fixQ_mem h
      exact ⟨k + 1, by omega, by simpa using h2⟩
    simp only [fixQ] at h
    cases hi : isPtr q with
    | true =>
      rw [hi] at h
      rcases List.mem_cons.1 h with rfl | h
      · exact ⟨0, rfl, rfl⟩
      · exact tail h
    | false => rw [hi] at h; exact tail h
theorem fixQ_free {D : List Nat} : ∀ {ps : List PT} {vs : List Value} {n : Nat} {p : Nat × Value}, qFree D ps n = true → p ∈ fixQ ps n vs → p.1 ∉ D
  | [], _, n, p, _, h => by simp [fixQ] at h
  | _ :: _, [], n, p, _, h => by simp [fixQ] at h
  | q :: ps, v :: vs, n, p, hD, h => by
    simp only [qFree, Bool.and_eq_true, Bool.or_eq_true, Bool.not_eq_true'] at hD
    simp only [fixQ] at h
    cases hi : isPtr q with
    | true =>
      rw [hi] at h
      rcases List.mem_cons.1 h with rfl | h
      · rcases hD.1 with h1 | h1
        · rw [hi] at h1; cases h1
        · intro hm
          rw [memN_iff.2 hm] at h1; cases h1
      · exact fixQ_free hD.2 h
    | false => rw [hi] at h; exact fixQ_free hD.2 h
theorem outQ_ok {dp : Bool} {σ0 : St} (hR : Rel F G σ0 tmps w') : ∀ {ps : List PT} {x y : pts ps} {vs : List Value} {i : Nat} {σ σ' : St}, (∀ r g, σ.reg? r = some g → σ0.reg? r = some g) → vs.length = ps.length → (∀ p ∈ fixQ ps i vs, tmps.getD p.1 undef = p.2) → outQ dp σ0 σ ps i x = some (y, σ') →
    ∃ M, Moved σ σ' M ∧ ∀ col', Suits F G w' false M (fun _ => True) col' → (∀ b n, G.c b = some [(n, 1)] → col' b = none) → backsQR col' w' dp ps y vs
  | [], x, y, vs, i, σ, σ', hsub, ha, hf, ho => by
    simp only [outQ, Option.some.injEq] at ho
    obtain ⟨_, rfl⟩ := Prod.mk.inj ho
    exact ⟨[], Moved.refl, fun col' _ _ => by simp only [backsQR]⟩
  | p :: ps, x, y, [], i, σ, σ', hsub, ha, hf, ho => by simp at ha
  | p :: ps, x, y, v :: vs', i, σ, σ', hsub, ha, hf, ho => by
    have hf' : ∀ q ∈ fixQ ps (i + 1) vs', tmps.getD q.1 undef = q.2 := fun q hq => hf q (by
      simp only [fixQ]
      cases isPtr p with
      | true => exact List.mem_cons_of_mem _ hq
      | false => exact hq)
    simp only [outQ] at ho
    obtain ⟨⟨y1, σ1⟩, ho1, ho⟩ := Option.bind_eq_some_iff.1 ho
    obtain ⟨⟨r, σr⟩, hr, hx⟩ := Option.map_eq_some_iff.1 ho
    obtain ⟨rfl, rfl⟩ := Prod.mk.inj hx
    have key : ∃ M, Moved σ σ1 M ∧ ∀ col', Suits F G w' false M (fun _ => True) col' → (∀ b n, G.c b = some [(n, 1)] → col' b = none) → backQR col' w' dp p y1 v := by
      rcases p with ⟨agg, m, ts⟩ | ⟨io, ts⟩ | ⟨f, cs⟩
      · simp only [outQ1, Option.some.injEq] at ho1
        obtain ⟨_, rfl⟩ := Prod.mk.inj ho1
        exact ⟨[], Moved.refl, fun col' _ _ => trivial⟩
      · cases io with
        | false =>
          simp only [outQ1, Option.some.injEq] at ho1
          obtain ⟨_, rfl⟩ := Prod.mk.inj ho1
          exact ⟨[], Moved.refl, fun col' _ _ => trivial⟩
        | true =>
          simp only [outQ1] at ho1
          obtain ⟨b, hb, ho2⟩ := Option.bind_eq_some_iff.1 ho1
          obtain ⟨c, hc, ho3⟩ := Option.bind_eq_some_iff.1 ho2
          obtain ⟨z, hz, ho4⟩ := Option.bind_eq_some_iff.1 ho3
          obtain ⟨σm, hm, hx⟩ := Option.map_eq_some_iff.1 ho4
          obtain ⟨rfl, rfl⟩ := Prod.mk.inj hx
          have hv : tmps.getD i undef = v := hf (i, v) (by simp [fixQ, isPtr])
          have hs := hR.slots i
          rw [hv, ptrBox_eq hb] at hs
          simp only [slotR, leafR] at hs
          obtain ⟨t, cur, b1, b2, b3, b4⟩ := hR.boxes b c hc
          obtain ⟨M, hM, _, _, hout⟩ := moveAll_ok hR 128 b3 hz hsub hm
          exact ⟨M, hM, fun col' hsu hbn => ⟨G.bb b, cur, t, hs.2, b1, hbn _ _ b2, hout _ col' hsu⟩⟩
      · simp only [outQ1, Option.some.injEq] at ho1
        obtain ⟨_, rfl⟩ := Prod.mk.inj ho1
        exact ⟨[], Moved.refl, fun col' _ _ => trivial⟩
    obtain ⟨M1, hM1, hout1⟩ := key
    obtain ⟨M2, hM2, hout2⟩ := outQ_ok hR (fun r g hg => hsub r g (hM1.sub r g hg)) (by simpa using ha) hf' hr
    refine ⟨M1 ++ M2, hM1.trans hM2, fun col' hsu hbn => ?_⟩
    simp only [backsQR]
    exact ⟨v, vs', rfl, by rw [phd_pmk]; exact hout1 col' hsu.left hbn, by rw [ptl_pmk]; exact hout2 col' hsu.right hbn⟩
theorem argsQR_length {dp : Bool} {col : Nat → Option Col} : ∀ {ps : List PT} {x : pts ps} {j : Nat} {vs : List Value}, argsQR S col w dp ps x j vs → vs.length = ps.length
  | [], _, _, _, h => by simp only [argsQR] at h; subst h; rfl
  | p :: ps, _, _, _, h => by
    simp only [argsQR] at h
    obtain ⟨v, vs', rfl, _, h2⟩ := h
    simp [argsQR_length h2]

theorem ctq_ok {n : Nat} (hE : EnvOk P E) (hC : EnvCts P E w n) {fn : Func} {c : CtM} (hf : P.funcs[c.f]? = some fn) (hname : (fn.name == "runtime.NumGoroutine") = false)
    (hdp : E.deep = c.deep) (hq : c.q = true) (hev : ∀ x, c.pre x → evalQ E H fn c.ps c.rs x fun r y => r = c.F x ∧ y = c.W x) : CtMAt P c n w := by
  refine CtMAt.ofTake ?_ hq
  obtain ⟨f, ps, rs, pre, Fn, Wn, deep, q⟩ := c
  have hdp : E.deep = deep := hdp
  subst hdp
  intro hn vals x S col hS hO hargs hpre
  have h0 := hev x hpre
  unfold evalQ at h0
  obtain ⟨body, hbody⟩ : ∃ b, fn.body = some b := by
    cases hb : fn.body with
    | none => rw [hb] at h0; exact h0.elim
    | some b => exact ⟨b, rfl⟩
  refine ⟨⟨fn, hf, hname, by rw [hbody]; rfl⟩, ?_⟩
  rw [hbody] at h0
  simp only at h0
  refine calls_of_wp hf hbody ?_
  cases hpar : qFree (pdsts body) ps 0 with
  | false => rw [hpar] at h0; exact h0.elim
  | true =>
  rw [hpar] at h0
  simp only [Bool.not_true, cond_false] at h0
  split at h0
  · exact h0.elim
  next ss σ0 hent =>
  have hlenp : vals.toList.length = ps.length := argsQR_length hargs
  let F : Fm := { w0 := w, S := S, n0 := n, O := fun b => col b ≠ none, fix := fixQ ps 0 vals.toList }
  let G : Gh := ⟨col, fun _ => 0, fun _ => undef⟩
  have hR0 : Rel F G { slots := [], boxes := [], regs := [] } #[] w := {
    below := BelowO.refl _ _
    hS := ⟨hn, fun b hb => hO b hb, fun b hb => ⟨(hS b hb).1, fun h => h (hS b hb).2⟩⟩
    col := fun b hb => by
      have hb' : col b ≠ none := hb
      exact ⟨.inr hb', (hO b hb').2⟩
    boxes := fun b c hc => by cases hc
    regs := fun r g hg => by cases hg
    hol := fun r g hg => by cases hg
    slots := fun i => by simp only [nth, slotR, leafR]
    nslots := rfl }
  obtain ⟨G1, hR1, _, e1, hslots⟩ := enterQ_ok (S := S) (col := col) hR0 (fun b hb => hb) rfl hargs hent
  have hlen : vals.size = ss.length := by
    have := slotsR_length hslots
    simpa using this
  have hR : Rel F G1 { σ0 with slots := pad (.cell .junk) fn.ntmps ss } (vals ++ Array.replicate (fn.ntmps - vals.size) undef) w := {
    below := hR1.below
    hS := hR1.hS
    col := hR1.col
    boxes := fun b c hc => by
      obtain ⟨t, cur, b1, b2, b3, b4⟩ := hR1.boxes b c hc
      exact ⟨t, cur, b1, b2, leafsR_keep (keep_other _) b3, b4⟩
    regs := fun r g hg => hR1.regs r g hg
    hol := fun r g hg => hR1.hol r g hg
    slots := fun i => by
      rw [pad_nth]
      have := slotsR_get hslots i
      have e : (vals ++ Array.replicate (fn.ntmps - vals.size) undef).getD i undef = vals.toList.getD i undef := by
        rw [Array.getD_eq_getD_getElem?, List.getD_eq_getElem?_getD, Array.getElem?_append, Array.getElem?_toList]
        split
        · rfl
        · next hi =>
          have : vals[i]? = none := Array.getElem?_eq_none (by omega)
          rw [this, Array.getElem?_replicate]
          split <;> rfl
      rw [e]; exact slotR_keep (keep_other _) this
    nslots := by
      rw [pad_length, ← hlen]
      simp only [Array.size_append, Array.size_replicate]
      omega }
  have hfree : ∀ d ∈ pdsts body, F.free d := fun d hd p hp e => fixQ_free hpar hp (by rw [e]; exact hd)
  have hcalm : ∀ p ∈ F.fix, (vals ++ Array.replicate (fn.ntmps - vals.size) undef).getD p.1 undef = p.2 := fun p hp => by
    obtain ⟨k, h1, h2⟩ := fixQ_mem hp
    rw [h1, Nat.zero_add, Array.getD_eq_getD_getElem?, Array.getElem?_append]
    rw [Array.getElem?_toList] at h2
    have := (Array.getElem?_eq_some_iff.1 h2).1
    rw [if_pos this, h2]
    rfl
  refine evalCode_ok (F := F) hE hC body hfree ⟨G1, hR, rfl, hcalm⟩ h0 fun e n' σ' a' w' hk hok hext => ?_
  obtain ⟨G', hR', hd⟩ := hok
  have hend : (match outRes E false σ' rs fn.results.toList with
      | none => False
      | some (r, τ) => match outQ E.deep σ' τ ps 0 x with
        | none => False
        | some (y, _) => r = Fn x ∧ y = Wn x) → a'.defers = [] ∧ ∃ v, (results fn a'.tmps).run P w' = .ok v w' ∧ (fun e w' => ∃ vs v col', e = Ending.returned v ∧ Below n w w' ∧ (∀ b, b < w.heap.size → col b = none → w'.heap[b]? = w.heap[b]?) ∧ retV vs v ∧
        (∀ b, col' b ≠ none → (w.heap.size ≤ b ∨ col b ≠ none) ∧ b < w'.heap.size) ∧
        resR (fun _ => True) col' w' false E.deep rs (Fn x) 0 vs ∧ backsQR col' w' E.deep ps (Wn x) vals.toList) (Ending.returned v) w' := fun hm => by
    split at hm
    · exact hm.elim
    · next r τ hout =>
      split at hm
      · exact hm.elim
      · next y τ2 hy =>
      obtain ⟨hm1, hm2⟩ := hm
      subst hm1 hm2
      obtain ⟨us, L, hrun, hM, hsh, hres⟩ := out_ok hE hR' 0 (fun _ _ h => h) hR' hout
      obtain ⟨M, hMM, hback⟩ := outQ_ok hR' hM.sub hlenp (fun p hp => hd.2 p hp) hy
      have hsu : Suits F G' w' false (L ++ M) (fun _ => True) (shiftC G'.c (L ++ M)) := ⟨fun _ _ => trivial, by simp, fun p hp b l hb => shiftC_of hb (look_pairs (hM.trans hMM).once hp)⟩
      refine ⟨hd.1, (if h : us.length = 1 then us[0] else .tuple us.toArray), ?_, us, _, shiftC G'.c (L ++ M), rfl, hR'.below.below, fun b hb hc => hR'.below.block b hb fun h => h hc, ?_, fun b hb => ?_,
        hres (fun _ => True) _ hsu.left, hback _ hsu.right fun b n hb => ?_⟩
      · have e : fn.results.mapM (resRun a'.tmps) = List.toArray <$> fn.results.toList.mapM (resRun a'.tmps) := Array.mapM_eq_mapM_toList
        have hr2 : (fn.results.mapM (resRun a'.tmps)).run P w' = .ok us.toArray w' := by
          rw [e]
          simp [hrun]
        have key : ∀ f : ResultVar → Sem Value, (∀ rv, f rv = resRun a'.tmps rv) → (fn.results.mapM f).run P w' = .ok us.toArray w' := fun f hf => by
          rw [show f = resRun a'.tmps from funext hf]; exact hr2
        unfold results
        rw [Sem.run_bind, key _ (fun rv => by cases rv <;> rfl)]
        simp only [Result.andThen_ok, Sem.run_pure, List.size_toArray]
        by_cases h1 : us.length = 1 <;> simp [h1]
      · unfold retV
        by_cases h1 : us.length = 1
        · left
          rw [dif_pos h1]
          obtain ⟨u, rfl⟩ := List.length_eq_one_iff.1 h1
          rfl
        · right
          rw [dif_neg h1]
          exact ⟨h1, rfl⟩
      · obtain ⟨l, r, j, h1, _⟩ := shiftC_ne hb
        have := hR'.col b (by rw [h1]; simp)
        exact ⟨this.1, this.2⟩
      · unfold shiftC
        rw [hb]
        simp [rootOf]
  cases e with
  | normal => exact hend hk
  | exit id => exact hk.elim
  | ret => exact hend hk
end
end Go.Ev
end

section
/- What is read as data stands in memory as typed values: by a check on the type table alone. -/
set_option linter.unusedVariables false
namespace Go.Ev
open Go.RowKit

mutual
def wf : (t : L) → t.den → Prop
  | .int k, x => (Lit.int k x).wf = true
  | .bool, _ => True
  | .str, s => ByteArray.size s ≤ maxLen
  | .list _ ls, xs => List.length (α := L.dens ls) xs ≤ maxLen ∧ ∀ (i : Nat) (x : L.dens ls), gt (α := L.dens ls) xs i = some x → wfs ls x
def wfs : (ls : List L) → L.dens ls → Prop
  | [], _ => True
  | [t], x => wf t x
  | t :: t' :: ts, x => wf t x.1 ∧ wfs (t' :: ts) x.2
end
theorem wfs_cons {t : L} {ts : List L} {x : dens (t :: ts)} : wfs (t :: ts) x ↔ wf t (hd x) ∧ wfs ts (tl x) := by
  cases ts with
  | nil => simp [wfs, hd]
  | cons t' ts => simp [wfs, hd, tl]
def dapp : {l m : List L} → dens l → dens m → dens (l ++ m)
  | [], _, _, y => y
  | t :: ts, _, x, y => mk (hd x) (dapp (tl x) y)
theorem repLs_app {R : Rw} : ∀ {l m : List L} {p : Col} {i o : Nat} {x : dens l} {y : dens m} {cs ds : List Value}, repLs R l p i o x cs → repLs R m p i (o + l.length) y ds → repLs R (l ++ m) p i o (dapp x y) (cs ++ ds)
  | [], m, p, i, o, x, y, cs, ds, h, h' => by
    simp only [repLs] at h
    subst h
    simpa [dapp] using h'
  | t :: ts, m, p, i, o, x, y, cs, ds, h, h' => by
    obtain ⟨v, cs', rfl, h1, h2⟩ := repLs_cons.1 h
    refine repLs_cons.2 ⟨v, cs' ++ ds, rfl, ?_, ?_⟩
    · simp only [dapp, hd_mk]; exact h1
    · simp only [dapp, tl_mk]
      exact repLs_app h2 (by rwa [List.length_cons, show o + (ts.length + 1) = o + 1 + ts.length by omega] at h')
theorem wfs_app : ∀ {l m : List L} {x : dens l} {y : dens m}, wfs l x → wfs m y → wfs (l ++ m) (dapp x y)
  | [], _, _, _, _, h => h
  | t :: ts, m, x, y, h, h' => by
    obtain ⟨h1, h2⟩ := wfs_cons.1 h
    refine wfs_cons.2 ⟨?_, ?_⟩
    · simp only [dapp, hd_mk]; exact h1
    · simp only [dapp, tl_mk]; exact wfs_app h2 h'

def fieldsOp (P : Program) (f : TypeId → List L → Bool) : List Field → Nat → List L → Bool
  | [], _, [] => true
  | [], _, _ :: _ => false
  | fd :: fs, o, ls => Nat.beq fd.offset o && f fd.type (ls.take (P.cellsOf fd.type)) && fieldsOp P f fs (o + (ls.take (P.cellsOf fd.type)).length) (ls.drop (P.cellsOf fd.type))
def opB (P : Program) : Nat → TypeId → List L → Bool
  | 0, _, _ => false
  | n + 1, t, ls => Nat.beq (P.cellsOf t) ls.length && (match P.underlying t with
    | some (.int k) => (match ls with
      | [.int k'] => kEq k k'
      | _ => false)
    | some .bool => (match ls with
      | [.bool] => true
      | _ => false)
    | some .string => (match ls with
      | [.str] => true
      | _ => false)
    | some (.slice e) => (match ls with
      | [.list e' ls'] => Nat.beq e e' && opB P n e ls'
      | _ => false)
    | some (.struct fs) => fieldsOp P (opB P n) fs.toList 0 ls
    | _ => false)

structure Opn (P : Program) (t : TypeId) (ls : List L) : Prop where
  size : P.cellsOf t = ls.length
  op : ∀ {H : Type} {enc : TypeId × Value → H} {w : World} {base : Nat} {spare : Nat → Bool} {held : Bool} (fuel : Nat) (cs : List Value) (x : DataW H × List MemPlace),
    DataW.trod enc P w base spare held fuel t cs = some x → ∃ y : dens ls, repLs (roRow w (now w)) ls [] 0 0 y cs ∧ wfs ls y
theorem list_choose {α : Type} {n : Nat} {q : Nat → α → Prop} (h : ∀ i, i < n → ∃ y, q i y) : ∃ ys : List α, ys.length = n ∧ ∀ i y, ys[i]? = some y → q i y := by
  induction n with
  | zero => exact ⟨[], rfl, fun i y hy => by simp at hy⟩
  | succ n ih =>
    obtain ⟨ys, hl, hys⟩ := ih (fun i hi => h i (by omega))
    obtain ⟨y, hy⟩ := h n (by omega)
    refine ⟨ys ++ [y], by simp [hl], fun i z hz => ?_⟩
    by_cases hi : i < ys.length
    · rw [List.getElem?_append_left hi] at hz
      exact hys i z hz
    · rw [List.getElem?_append_right (by omega)] at hz
      by_cases he : i - ys.length = 0
      · rw [he] at hz
        simp at hz
        obtain rfl : i = n := by omega
        exact hz ▸ hy
      · obtain ⟨m, hm⟩ : ∃ m, i - ys.length = m + 1 := ⟨i - ys.length - 1, by omega⟩
        rw [hm] at hz
        simp at hz
theorem cell_now {w : World} {a : Addr} {u : Value} (h : w.cell? a = some u) : now w a.block := by
  unfold World.cell? at h
  unfold now
  rcases Nat.lt_or_ge a.block w.heap.size with h1 | h1
  · exact h1
  · rw [Array.getElem?_eq_none h1] at h
    simp at h

theorem fields_ok {P : Program} {f : TypeId → List L → Bool} (hf : ∀ t ls, f t ls = true → Opn P t ls) : ∀ {fs : List Field} {o : Nat} {ls : List L}, fieldsOp P f fs o ls = true →
    ∀ {H : Type} {enc : TypeId × Value → H} {w : World} {base : Nat} {spare : Nat → Bool} {held : Bool} (fuel : Nat) (cs : List Value), cs.length = o + ls.length →
    (∀ (i : Nat) (f : Field), fs[i]? = some f → ∃ z : DataW H × List MemPlace, DataW.trod enc P w base spare held fuel f.type ((cs.drop f.offset).take (P.cellsOf f.type)) = some z) → ∃ y : dens ls, repLs (roRow w (now w)) ls [] 0 o y (cs.drop o) ∧ wfs ls y
  | [], o, [], _ => by
    intro fuel cs hl hz
    exact ⟨(), by simp only [repLs]; apply List.eq_nil_of_length_eq_zero; rw [List.length_drop, hl]; simp, trivial⟩
  | [], o, _ :: _, h => by simp [fieldsOp] at h
  | fd :: fs, o, ls, h => by
    intro fuel cs hl hz
    rename_i H enc w base spare held
    simp only [fieldsOp, Bool.and_eq_true] at h
    obtain ⟨⟨h1, h2⟩, h3⟩ := h
    have ho := beq_nat h1
    have hO := hf _ _ h2
    obtain ⟨z, hz0⟩ := hz 0 fd rfl
    have hlen : (ls.take (P.cellsOf fd.type)).length + (ls.drop (P.cellsOf fd.type)).length = ls.length := by rw [← List.length_append, List.take_append_drop]
    rw [ho] at hz0
    obtain ⟨y, hy, hF⟩ := hO.op _ _ _ hz0
    obtain ⟨y', hy', hF'⟩ := fields_ok hf h3 fuel cs (by omega) (fun i g hg => hz (i + 1) g (by simpa using hg))
    have e : ls.take (P.cellsOf fd.type) ++ ls.drop (P.cellsOf fd.type) = ls := List.take_append_drop _ _
    have hcs : cs.drop o = (cs.drop o).take (P.cellsOf fd.type) ++ cs.drop (o + (ls.take (P.cellsOf fd.type)).length) := by
      rw [← hO.size, ← List.drop_drop, List.take_append_drop]
    have hall : ∃ y : dens (ls.take (P.cellsOf fd.type) ++ ls.drop (P.cellsOf fd.type)), repLs (roRow w (now w)) (ls.take (P.cellsOf fd.type) ++ ls.drop (P.cellsOf fd.type)) [] 0 o y (cs.drop o) ∧ wfs _ y :=
      ⟨dapp y y', by rw [hcs]; exact repLs_app (ros_off hy) hy', wfs_app hF hF'⟩
    rwa [e] at hall

theorem opn_of {P : Program} : ∀ {n : Nat} {t : TypeId} {ls : List L}, opB P n t ls = true → Opn P t ls
  | 0, _, _, h => by simp [opB] at h
  | n + 1, t, ls, h => by
    simp only [opB, Bool.and_eq_true] at h
    obtain ⟨hsz, h⟩ := h
    have hsz := beq_nat hsz
    split at h
    · next k hu =>
      split at h
      · next k' =>
        have e := kEq_eq h
        subst e
        refine ⟨hsz, fun fuel cs x hx => ?_⟩
        obtain ⟨m, rfl, _, hw⟩ := DataW.trod_int hu hx
        exact ⟨m, by simp only [repLs, repL]; exact ⟨_, rfl, rfl⟩, by simpa only [wfs, wf] using hw⟩
      · cases h
    · next hu =>
      split at h
      · refine ⟨hsz, fun fuel cs x hx => ?_⟩
        obtain ⟨m, rfl, _⟩ := DataW.trod_bool hu hx
        exact ⟨m, by simp only [repLs, repL]; exact ⟨_, rfl, rfl⟩, by simp only [wfs, wf]⟩
      · cases h
    · next hu =>
      split at h
      · refine ⟨hsz, fun fuel cs x hx => ?_⟩
        obtain ⟨m, rfl, _, hs⟩ := DataW.trod_string hu hx
        exact ⟨m, by simp only [repLs, repL]; exact ⟨_, rfl, rfl⟩, by simpa only [wfs, wf] using hs⟩
      · cases h
    · next e hu =>
      split at h
      · next e' els _ =>
        simp only [Bool.and_eq_true] at h
        have e1 := beq_nat h.1
        subst e1
        have he := opn_of h.2
        refine ⟨hsz, fun {H enc w base spare held} fuel cs x hx => ?_⟩
        rcases Deep.open_slice hu hx with ⟨rfl, _⟩ | ⟨a, len, cap, m, n', D, Pl, rfl, hb, hl, hm, hmm, _, hel⟩
        · exact ⟨([] : List (dens els)), by simp only [repLs]; exact ⟨_, rfl, nil_rep ro_nil⟩, by simp [wfs, wf, gt]⟩
        · have hle : len ≤ m := by rw [hmm]; split <;> omega
          obtain ⟨ys, hlen, hys⟩ := list_choose (n := len) (q := fun i (y : dens els) => wfs els y ∧ ∃ cs', w.cells? base (a.add (i * P.cellsOf e)) (P.cellsOf e) = some cs' ∧ repLs (roRow w (now w)) els [] 0 0 y cs') (fun i hi => by
            obtain ⟨cs', h1, h2⟩ := hel i (by omega)
            obtain ⟨y, hy, hF⟩ := he.op _ _ _ h2
            exact ⟨y, hF, cs', h1, hy⟩)
          subst hlen
          have hcell : ∀ i y, ys[i]? = some y → ∃ cs', cs'.length = els.length ∧ repLs (roRow w (now w)) els [] 0 0 y cs' ∧ ∀ j u, cs'[j]? = some u → w.cell? (a.add (i * els.length + j)) = some u := fun i y hy => by
            obtain ⟨_, cs', h1, h2⟩ := hys i y hy
            obtain ⟨_, h4⟩ := World.cells?_some h1
            have h3 := repLs_length h2
            refine ⟨cs', h3, h2, fun j u hu2 => ?_⟩
            have hj : j < cs'.length := (List.getElem?_eq_some_iff.mp hu2).1
            rw [← he.size, ← Deep.add_add]
            rw [h4.2 j (by rw [he.size]; omega), hu2]
          -- all cells
          obtain ⟨all, hal, hac⟩ := list_choose (n := ys.length * els.length) (q := fun j (u : Value) => w.cell? (a.add j) = some u) (fun j hj => by
            have hp : 0 < els.length := by
              rcases Nat.eq_zero_or_pos els.length with h0 | h0
              · rw [h0] at hj; simp at hj
              · exact h0
            have hd : j / els.length < ys.length := Nat.div_lt_of_lt_mul (by rw [Nat.mul_comm]; exact hj)
            obtain ⟨cs', c1, _, c3⟩ := hcell (j / els.length) _ (List.getElem?_eq_getElem hd)
            have hmod : j % els.length < cs'.length := by rw [c1]; exact Nat.mod_lt _ hp
            refine ⟨cs'[j % els.length], ?_⟩
            have := c3 (j % els.length) _ (List.getElem?_eq_getElem hmod)
            rwa [show j / els.length * els.length + j % els.length = j from by rw [Nat.mul_comm]; exact Nat.div_add_mod j _] at this)
          refine ⟨ys, ?_, ?_⟩
          · simp only [repLs, repL]
            refine ⟨_, rfl, all, ⟨some a, cap, rfl, hl, fun hpos => ⟨a, rfl, ?_, fun j u hu2 => hac j u hu2⟩⟩, hal, fun i y hy => ?_⟩
            · have h0 : 0 < all.length := by omega
              have := cell_now (hac 0 _ (List.getElem?_eq_getElem h0))
              rwa [block_of_add] at this
            · obtain ⟨cs', c1, c2, c3⟩ := hcell i y hy
              have hi := (List.getElem?_eq_some_iff.1 (show ys[i]? = some y from hy)).1
              have hseg : (all.drop (i * els.length)).take els.length = cs' := by
                apply List.ext_getElem?
                intro j
                rw [List.getElem?_take]
                split
                · next hj =>
                  have hbnd : i * els.length + j < all.length := by
                    rw [hal]
                    have := Nat.mul_le_mul_right els.length hi
                    rw [Nat.succ_mul] at this
                    omega
                  have hj' : j < cs'.length := by omega
                  rw [List.getElem?_drop, List.getElem?_eq_getElem hbnd, List.getElem?_eq_getElem hj']
                  have h1 := hac _ _ (List.getElem?_eq_getElem hbnd)
                  have h2 := c3 j _ (List.getElem?_eq_getElem hj')
                  rw [h1] at h2
                  exact h2
                · next hj => rw [List.getElem?_eq_none (by omega)]
              rw [hseg]
              exact ros_path c2
          · simp only [wfs, wf]
            exact ⟨by simp only [maxLen]; simp only [maxLen] at hm; omega, fun i y hy => (hys i y hy).1⟩
      · cases h
    · next fs hu =>
      refine ⟨hsz, fun {H enc w base spare held} fuel cs x hx => ?_⟩
      obtain ⟨xs, m, _, _, hl, hxs, hf⟩ := DataW.trod_struct hu hx
      obtain ⟨y, hy, hF⟩ := fields_ok (fun t ls h => opn_of h) h (enc := enc) (w := w) (base := base) (spare := spare) (held := held) m cs (by omega) (fun i f hi => by
        have hi' : fs[i]? = some f := by rw [← Array.getElem?_toList]; exact hi
        have hlt : i < xs.length := by rw [hxs]; exact (Array.getElem?_eq_some_iff.mp hi').1
        exact ⟨_, (hf i f hi').trans (List.getElem?_eq_getElem hlt)⟩)
      exact ⟨y, by simpa using hy, hF⟩
    · cases h
end Go.Ev
end

section
/- Shapes that many functions come to: the sizing, turning and comparing of slices; plain laws on them. -/
set_option linter.unusedVariables false
namespace Go.Ev

def sumN : List Nat → Nat
  | [] => 0
  | a :: l => a + sumN l
mutual
def cost : (t : L) → t.den → Nat
  | .int _, _ => 0
  | .bool, _ => 0
  | .str, s => ByteArray.size s
  | .list _ ls, xs => List.length (α := L.dens ls) xs + sumN (List.map (α := L.dens ls) (costs ls) xs)
def costs : (ls : List L) → L.dens ls → Nat
  | [], _ => 0
  | [t], x => cost t x
  | t :: t' :: ts, x => cost t x.1 + costs (t' :: ts) x.2
end
theorem wrapI (n : Int) (h0 : -9223372036854775808 ≤ n) (h1 : n < 9223372036854775808) : IntKind.i64.wrap n = n := by
  rw [IntKind.wrap_i64]; omega
def capI : Int := 1048576
def leftI (c : Nat) (k : Int) : Int := if k < (c : Int) then -1 else k - (c : Int)

def szS {α : Type} (d : α) (P : α → Int → Prop) (F : α → Int → Int) (x : List α) (k : Int) (Q : Int → Prop) : Prop :=
  (IntKind.i64.wrap (k - (x.length : Int)) < 0 → Q (-1)) ∧
  (¬ IntKind.i64.wrap (k - (x.length : Int)) < 0 → ∀ Lp : Int × Int → Prop,
    (∀ y : Int × Int, ((y.2 < (x.length : Int) → 0 ≤ y.2 ∧ y.2 < (x.length : Int) ∧ P (x.getD y.2.toNat d) y.1 ∧
        ((F (x.getD y.2.toNat d) y.1 < 0 → Q (-1)) ∧ (¬ F (x.getD y.2.toNat d) y.1 < 0 → Lp (F (x.getD y.2.toNat d) y.1, IntKind.i64.wrap (y.2 + 1))))) ∧
      (¬ y.2 < (x.length : Int) → Q y.1)) → Lp y) → Lp (IntKind.i64.wrap (k - (x.length : Int)), 0))
theorem szS_holds {α : Type} (d : α) (c : α → Nat) (W : α → Prop) (xs : List α) (k : Int) (hlen : xs.length ≤ maxLen) (hw : ∀ (i : Nat) (y : α), gt xs i = some y → W y) (h0 : 0 ≤ k) (h1 : k ≤ capI) :
    szS d (fun y k => W y ∧ 0 ≤ k ∧ k ≤ capI) (fun y k => leftI (c y) k) xs k (fun r => r = leftI (xs.length + sumN (xs.map c)) k) := by
  simp only [maxLen] at hlen
  simp only [capI] at h1
  have hwr : IntKind.i64.wrap (k - (xs.length : Int)) = k - (xs.length : Int) := wrapI _ (by omega) (by omega)
  refine ⟨fun h => ?_, fun h Lp hL => ?_⟩
  · rw [hwr] at h
    unfold leftI
    rw [if_pos (by omega)]
  · rw [hwr] at h ⊢
    have key : ∀ (m i : Nat) (k' : Int), i + m = xs.length → 0 ≤ k' → k' + (sumN ((xs.take i).map c) : Int) = k - (xs.length : Int) → Lp (k', (i : Int)) := by
      intro m
      induction m with
      | zero =>
        intro i k' hi hk0 hk1
        have hi' : i = xs.length := by omega
        refine hL _ ⟨fun hlt => ?_, fun _ => ?_⟩
        · simp only at hlt; omega
        · rw [hi', List.take_length] at hk1
          simp only [leftI]
          rw [if_neg (by omega)]
          omega
      | succ m ih =>
        intro i k' hi hk0 hk1
        have hlt : i < xs.length := by omega
        have hget : xs.getD i d = xs[i] := by rw [List.getD_eq_getElem?_getD, List.getElem?_eq_getElem hlt]; rfl
        have htake : sumN ((xs.take (i + 1)).map c) = sumN ((xs.take i).map c) + c xs[i] := by
          rw [List.take_add_one, List.getElem?_eq_getElem hlt]
          simp only [Option.toList_some, List.map_append, List.map_cons, List.map_nil]
          exact sum_snoc _ _
        have hall : sumN ((xs.take (i + 1)).map c) ≤ sumN (xs.map c) := sum_take _ _
        refine hL _ ⟨fun _ => ⟨by simp only; omega, by simp only; omega, ?_, ?_⟩, fun hn => ?_⟩
        · simp only [Int.toNat_natCast, hget, capI]
          exact ⟨hw i _ (List.getElem?_eq_getElem hlt), hk0, by omega⟩
        · simp only [Int.toNat_natCast, hget, leftI]
          by_cases hc : k' < (c xs[i] : Int)
          · rw [if_pos hc]
            refine ⟨fun _ => ?_, fun h => by omega⟩
            rw [if_pos (by omega)]
          · rw [if_neg hc]
            refine ⟨fun h => by omega, fun _ => ?_⟩
            rw [wrapI _ (by omega) (by omega)]
            exact ih (i + 1) _ (by omega) (by omega) (by omega)
        · simp only at hn; omega
    exact key xs.length 0 _ (by omega) (by omega) (by simp [sumN])
where
  sum_snoc : ∀ (l : List Nat) (a : Nat), sumN (l ++ [a]) = sumN l + a
    | [], a => by simp [sumN]
    | b :: l, a => by simp only [List.cons_append, sumN, sum_snoc l a]; omega
  sum_take {c : α → Nat} : ∀ (l : List α) (i : Nat), sumN ((l.take i).map c) ≤ sumN (l.map c)
    | [], i => by simp
    | a :: l, 0 => by simp [sumN]
    | a :: l, i + 1 => by simp only [List.take_succ_cons, List.map_cons, sumN]; have := sum_take (c := c) l i; omega

def eqS {α : Type} (d : α) (P : α → α → Prop) (F : α → α → Bool) (x y : List α) (Q : Bool → Prop) : Prop :=
  ((x.length : Int) ≠ (y.length : Int) → Q false) ∧ (¬ (x.length : Int) ≠ (y.length : Int) → ∀ Lp : Int → Prop,
    (∀ i : Int, ((i < (x.length : Int) → 0 ≤ i ∧ i < (x.length : Int) ∧ 0 ≤ i ∧ i < (y.length : Int) ∧ P (x.getD i.toNat d) (y.getD i.toNat d) ∧
        ((¬ F (x.getD i.toNat d) (y.getD i.toNat d) = true → Q false) ∧ (¬ ¬ F (x.getD i.toNat d) (y.getD i.toNat d) = true → Lp (IntKind.i64.wrap (i + 1))))) ∧
      (¬ i < (x.length : Int) → Q true)) → Lp i) → Lp 0)
theorem eqS_holds {α : Type} (d : α) (P : α → α → Prop) (F : α → α → Bool) (x y : List α) (hlen : x.length ≤ maxLen) (hP : ∀ (i : Nat) (a b : α), gt x i = some a → P a b) (hF : ∀ a b, F a b = true ↔ a = b) {R : Bool} (hR : R = true ↔ x = y) :
    eqS d P F x y (fun r => r = R) := by
  simp only [maxLen] at hlen
  have hf : ∀ {p : Prop}, (p → ¬ x = y) → p → false = R := fun h hp => by
    cases R with
    | false => rfl
    | true => exact absurd (hR.1 rfl) (h hp)
  refine ⟨fun h => hf (p := True) (fun _ e => h (by rw [e])) trivial, fun h Lp hL => ?_⟩
  have hl : x.length = y.length := by
    have : (x.length : Int) = (y.length : Int) := Classical.byContradiction h
    omega
  have key : ∀ (m i : Nat), i + m = x.length → x.take i = y.take i → Lp (i : Int) := by
    intro m
    induction m with
    | zero =>
      intro i hi ht
      refine hL _ ⟨fun hlt => by omega, fun _ => ?_⟩
      rw [show i = x.length by omega, List.take_length, hl, List.take_length] at ht
      exact (hR.2 ht).symm
    | succ m ih =>
      intro i hi ht
      have hlt : i < x.length := by omega
      have hlt' : i < y.length := by omega
      have hgx : x.getD i d = x[i] := by rw [List.getD_eq_getElem?_getD, List.getElem?_eq_getElem hlt]; rfl
      have hgy : y.getD i d = y[i] := by rw [List.getD_eq_getElem?_getD, List.getElem?_eq_getElem hlt']; rfl
      refine hL _ ⟨fun _ => ?_, fun hn => by omega⟩
      simp only [Int.toNat_natCast, hgx, hgy]
      refine ⟨by omega, by omega, by omega, by omega, hP i _ _ (List.getElem?_eq_getElem hlt), fun hne => ?_, fun heq => ?_⟩
      · refine hf (p := ¬ F x[i] y[i] = true) (fun h e => h ((hF _ _).2 ?_)) hne
        subst e
        rfl
      · rw [wrapI _ (by omega) (by omega)]
        have he : x[i] = y[i] := (hF _ _).1 (Classical.byContradiction heq)
        refine ih (i + 1) (by omega) ?_
        rw [List.take_add_one, List.take_add_one, ht, List.getElem?_eq_getElem hlt, List.getElem?_eq_getElem hlt', he]
  exact key x.length 0 (by omega) (by simp)

def toS {α : Type} (d : α) (b : Nat) (P : α → Prop) (x : List α) (Q : List α → Prop) : Prop :=
  (x.length : Int) = (x.length : Int) ∧ 0 ≤ (x.length : Int) ∧ (x.length : Int) * (b : Int) ≤ 140737488355328 ∧ ∀ Lp : List α × Int → Prop,
    (∀ y : List α × Int, ((y.2 < (x.length : Int) → 0 ≤ y.2 ∧ y.2 < (x.length : Int) ∧ P (x.getD y.2.toNat d) ∧ 0 ≤ y.2 ∧ y.2 < (y.1.length : Int) ∧ Lp (y.1.set y.2.toNat (x.getD y.2.toNat d), IntKind.i64.wrap (y.2 + 1))) ∧
      (¬ y.2 < (x.length : Int) → Q y.1)) → Lp y) → Lp (List.replicate (x.length : Int).toNat d, 0)
theorem toS_holds {α : Type} (d : α) (b : Nat) (P : α → Prop) (x : List α) (hlen : x.length ≤ 1048576) (hb : b ≤ 1048576) (hP : ∀ (i : Nat) (a : α), gt x i = some a → P a) {Q : List α → Prop} (hQ : Q x) : toS d b P x Q := by
  have hmul : x.length * b ≤ 1048576 * 1048576 := Nat.mul_le_mul hlen hb
  refine ⟨rfl, by omega, by rw [← Int.natCast_mul]; omega, fun Lp hL => ?_⟩
  have key : ∀ (m i : Nat), i + m = x.length → Lp (x.take i ++ List.replicate m d, (i : Int)) := by
    intro m
    induction m with
    | zero =>
      intro i hi
      refine hL _ ⟨fun hlt => by simp only at hlt; omega, fun _ => ?_⟩
      simp only [List.replicate_zero, List.append_nil]
      rw [show i = x.length by omega, List.take_length]
      exact hQ
    | succ m ih =>
      intro i hi
      have hlt : i < x.length := by omega
      have hgx : x.getD i d = x[i] := by rw [List.getD_eq_getElem?_getD, List.getElem?_eq_getElem hlt]; rfl
      refine hL _ ⟨fun _ => ?_, fun hn => by simp only at hn; omega⟩
      simp only [Int.toNat_natCast, hgx]
      refine ⟨by omega, by omega, hP i _ (List.getElem?_eq_getElem hlt), by omega, by simp only [List.length_append, List.length_take, List.length_replicate]; omega, ?_⟩
      rw [wrapI _ (by omega) (by omega)]
      have hset : (x.take i ++ List.replicate (m + 1) d).set i x[i] = x.take (i + 1) ++ List.replicate m d := by
        rw [List.set_append_right _ _ (by rw [List.length_take]; omega), List.length_take, show i - min i x.length = 0 by omega, List.replicate_succ, List.set_cons_zero, show x.take (i + 1) = x.take i ++ [x[i]] from by rw [List.take_add_one, List.getElem?_eq_getElem hlt]; rfl, List.append_assoc]
        rfl
      rw [hset]
      exact ih (i + 1) (by omega)
  have := key x.length 0 (by omega)
  simpa using this

inductive SzStep (α : Type) where
  | str (g : α → ByteArray)
  | call (W : α → Prop) (c : α → Nat)
def szSt {α : Type} (x : α) : List (SzStep α) → Int → (Int → Prop) → Prop
  | [], k, Q => Q k
  | .str g :: r, k, Q => (IntKind.i64.wrap (k - ((g x).size : Int)) < 0 → Q (-1)) ∧ (¬ IntKind.i64.wrap (k - ((g x).size : Int)) < 0 → szSt x r (IntKind.i64.wrap (k - ((g x).size : Int))) Q)
  | .call W c :: r, k, Q => (W x ∧ 0 ≤ k ∧ k ≤ capI) ∧ ((leftI (c x) k < 0 → Q (-1)) ∧ (¬ leftI (c x) k < 0 → szSt x r (leftI (c x) k) Q))
def szSum {α : Type} (x : α) : List (SzStep α) → Nat
  | [] => 0
  | .str g :: r => (g x).size + szSum x r
  | .call _ c :: r => c x + szSum x r
def szFine {α : Type} (x : α) : List (SzStep α) → Prop
  | [] => True
  | .str g :: r => wf .str (g x) ∧ szFine x r
  | .call W _ :: r => W x ∧ szFine x r
theorem szSt_holds {α : Type} (x : α) : ∀ (l : List (SzStep α)) (k : Int) (n : Nat), szFine x l → 0 ≤ k → k ≤ capI → szSum x l = n → szSt x l k (fun r => r = leftI n k)
  | [], k, n, _, h0, h1, hn => by
    simp only [szSum] at hn
    subst hn
    simp only [szSt, leftI]
    rw [if_neg (by omega)]
    omega
  | .str g :: r, k, n, hf, h0, h1, hn => by
    simp only [szFine, wf, maxLen] at hf
    simp only [szSum] at hn
    simp only [capI] at h1
    have hw := wrapI (k - ((g x).size : Int)) (by omega) (by omega)
    simp only [szSt, hw]
    refine ⟨fun h => ?_, fun h => ?_⟩
    · unfold leftI
      rw [if_pos (by omega)]
    · have := szSt_holds x r (k - ((g x).size : Int)) (szSum x r) hf.2 (by omega) (by simp only [capI]; omega) rfl
      have e : leftI (szSum x r) (k - ((g x).size : Int)) = leftI n k := by
        unfold leftI
        by_cases hc : k - ((g x).size : Int) < (szSum x r : Int)
        · rw [if_pos hc, if_pos (by omega)]
        · rw [if_neg hc, if_neg (by omega)]; omega
      rwa [e] at this
  | .call W c :: r, k, n, hf, h0, h1, hn => by
    simp only [szFine] at hf
    simp only [szSum] at hn
    simp only [szSt]
    refine ⟨⟨hf.1, h0, h1⟩, fun h => ?_, fun h => ?_⟩
    · unfold leftI at h ⊢
      by_cases hc : k < (c x : Int)
      · rw [if_pos (by omega)]
      · rw [if_neg hc] at h; omega
    · have hk : leftI (c x) k = k - (c x : Int) := by
        unfold leftI at h ⊢
        by_cases hc : k < (c x : Int)
        · rw [if_pos hc] at h; omega
        · rw [if_neg hc]
      rw [hk] at h ⊢
      simp only [capI] at h1
      have := szSt_holds x r (k - (c x : Int)) (szSum x r) hf.2 (by omega) (by simp only [capI]; omega) rfl
      have e : leftI (szSum x r) (k - (c x : Int)) = leftI n k := by
        unfold leftI
        by_cases hc : k - (c x : Int) < (szSum x r : Int)
        · rw [if_pos hc, if_pos (by omega)]
        · rw [if_neg hc, if_neg (by omega)]; omega
      rwa [e] at this
inductive EqStep (α : Type) where
  | ne (p : α → α → Prop)
  | call (W : α → α → Prop) (F : α → α → Bool)
def eqSt {α : Type} (x y : α) : List (EqStep α) → (Bool → Prop) → Prop
  | [], Q => Q true
  | .ne p :: r, Q => (p x y → Q false) ∧ (¬ p x y → eqSt x y r Q)
  | .call W F :: r, Q => W x y ∧ ((¬ F x y = true → Q false) ∧ (¬ ¬ F x y = true → eqSt x y r Q))
def eqAll {α : Type} (x y : α) : List (EqStep α) → Prop
  | [] => True
  | .ne p :: r => ¬ p x y ∧ eqAll x y r
  | .call _ F :: r => F x y = true ∧ eqAll x y r
def eqFine {α : Type} (x y : α) : List (EqStep α) → Prop
  | [] => True
  | .ne _ :: r => eqFine x y r
  | .call W _ :: r => W x y ∧ eqFine x y r
theorem eqSt_holds {α : Type} (x y : α) : ∀ (l : List (EqStep α)) {R : Bool}, eqFine x y l → (R = true ↔ eqAll x y l) → eqSt x y l (fun r => r = R)
  | [], R, _, hR => by
    simp only [eqSt]
    exact (hR.2 trivial).symm
  | .ne p :: r, R, hf, hR => by
    simp only [eqSt]
    refine ⟨fun h => ?_, fun h => eqSt_holds x y r hf (hR.trans ⟨fun h => h.2, fun h' => ⟨h, h'⟩⟩)⟩
    cases R with
    | false => rfl
    | true => exact absurd h (hR.1 rfl).1
  | .call W F :: r, R, hf, hR => by
    simp only [eqSt]
    refine ⟨hf.1, fun h => ?_, fun h => eqSt_holds x y r hf.2 (hR.trans ⟨fun h => h.2, fun h' => ⟨Classical.byContradiction h, h'⟩⟩)⟩
    cases R with
    | false => rfl
    | true => exact absurd (hR.1 rfl).1 h
theorem sumN_mem : ∀ {l : List Nat} {a : Nat}, a ∈ l → a ≤ sumN l
  | b :: l, a, h => by
    simp only [sumN]
    rcases List.mem_cons.1 h with rfl | h
    · omega
    · have := sumN_mem h; omega
end Go.Ev
end

section
/- The plain library, first part: canonical types of the program's data, texts as lists of bytes, loops by measure. -/
set_option linter.unusedVariables false
namespace Go.Ev
abbrev S := ByteArray
abbrev Fld : Type := S × S
abbrev Rsp : Type := Int × List Fld × S
abbrev Slt : Type := S × List Fld × Int × List Fld × S × Int × Int × Bool
abbrev Shd : Type := Int × Int × List Slt × Int
abbrev Gen : Type := S × Int
abbrev Flt : Type := S × Bool × Int × Bool × Bool × S × S × List Fld × S × Int × List Fld × S × Int × Int
abbrev Rsc : Type := S × S × Int × Int × Bool × Bool × List Fld
abbrev Tld : Type := Int × Int × List Fld × S
abbrev Evt : Type := Int × Int × Int × S × Int × Int
abbrev Cnn : Type := Int × S × Int × S × S × List Fld × S × S × S × List Fld × S × S × List Fld × Int × List Fld × S × Int × Int × Bool × Int × Int × Int × Int × Bool × Int × List Fld × S × List Tld
class Dft (α : Type) where
  dft : α
instance : Dft Int := ⟨0⟩
instance : Dft Bool := ⟨false⟩
instance : Dft ByteArray := ⟨ByteArray.empty⟩
instance {α : Type} : Dft (List α) := ⟨[]⟩
instance {α β : Type} [Dft α] [Dft β] : Dft (α × β) := ⟨(Dft.dft, Dft.dft)⟩
def rx {α : Type} [Dft α] (xs : List α) (i : Int) : α := xs.getD i.toNat Dft.dft
theorem rx_nat {α : Type} [Dft α] (xs : List α) (i : Nat) (h : i < xs.length) : rx xs (i : Int) = xs[i] := by
  unfold rx
  rw [Int.toNat_natCast, List.getD_eq_getElem?_getD, List.getElem?_eq_getElem h]; rfl

class Cz (α : Type) where
  czOf : α → Nat
def cz {α : Type} [Cz α] (x : α) : Nat := Cz.czOf x
instance : Cz Int := ⟨fun _ => 0⟩
instance : Cz Bool := ⟨fun _ => 0⟩
instance : Cz ByteArray := ⟨fun s => s.size⟩
instance {α : Type} [Cz α] : Cz (List α) := ⟨fun xs => xs.length + sumN (xs.map cz)⟩
instance {α β : Type} [Cz α] [Cz β] : Cz (α × β) := ⟨fun x => cz x.1 + cz x.2⟩
theorem cz_int (x : Int) : cz x = 0 := rfl
theorem cz_bool (x : Bool) : cz x = 0 := rfl
theorem cz_str (x : ByteArray) : cz x = x.size := rfl
theorem cz_list {α : Type} [Cz α] (xs : List α) : cz xs = xs.length + sumN (xs.map cz) := rfl
theorem cz_pair {α β : Type} [Cz α] [Cz β] (x : α × β) : cz x = cz x.1 + cz x.2 := rfl
theorem czt {α β : Type} [Cz α] [Cz β] {x : α × β} {n : Nat} (h : cz x ≤ n) : cz x.2 ≤ n := by rw [cz_pair] at h; omega
theorem czh {α β : Type} [Cz α] [Cz β] {x : α × β} {n : Nat} (h : cz x ≤ n) : cz x.1 ≤ n := by rw [cz_pair] at h; omega
theorem cz_len {α : Type} [Cz α] (xs : List α) : xs.length ≤ cz xs := by rw [cz_list]; omega
theorem cz_mem {α : Type} [Cz α] {xs : List α} {x : α} (h : x ∈ xs) : cz x + 1 ≤ cz xs := by
  rw [cz_list]
  have h1 := sumN_mem (List.mem_map.2 ⟨x, h, rfl⟩ : cz x ∈ xs.map cz)
  have h2 : 0 < xs.length := List.length_pos_of_mem h
  omega

def in64 (n : Int) : Prop := -9223372036854775808 ≤ n ∧ n ≤ 9223372036854775807
class Wd (α : Type) where
  wdOf : α → Prop
def wd {α : Type} [Wd α] (x : α) : Prop := Wd.wdOf x
instance : Wd Int := ⟨fun n => (Lit.int .i64 n).wf = true⟩
instance : Wd Bool := ⟨fun _ => True⟩
instance : Wd ByteArray := ⟨fun s => s.size ≤ maxLen⟩
instance {α : Type} [Wd α] : Wd (List α) := ⟨fun xs => xs.length ≤ maxLen ∧ ∀ (i : Nat) (x : α), gt xs i = some x → wd x⟩
instance {α β : Type} [Wd α] [Wd β] : Wd (α × β) := ⟨fun x => wd x.1 ∧ wd x.2⟩
instance : DecidableEq (List Fld × S) := @instDecidableEqProd _ _ inferInstance inferInstance
instance : DecidableEq (Int × List Fld × S) := @instDecidableEqProd _ _ inferInstance inferInstance
instance : Dft (Int × List Fld × S) := inferInstance
instance : Cz (Int × List Fld × S) := inferInstance
instance : Wd (Int × List Fld × S) := inferInstance
instance : DecidableEq (S × List Fld × S) := @instDecidableEqProd _ _ inferInstance inferInstance
instance : DecidableEq (S × S × List Fld × S) := @instDecidableEqProd _ _ inferInstance inferInstance
instance : Dft (S × S × List Fld × S) := inferInstance
instance : Cz (S × S × List Fld × S) := inferInstance
instance : Wd (S × S × List Fld × S) := inferInstance
instance : DecidableEq (Int × Int × List Fld × S) := @instDecidableEqProd _ _ inferInstance inferInstance
instance : Dft (Int × Int × List Fld × S) := inferInstance
instance : Cz (Int × Int × List Fld × S) := inferInstance
instance : Wd (Int × Int × List Fld × S) := inferInstance
instance : DecidableEq (Int × Int) := @instDecidableEqProd _ _ inferInstance inferInstance
instance : DecidableEq (S × Int × Int) := @instDecidableEqProd _ _ inferInstance inferInstance
instance : DecidableEq (List Fld × S × Int × Int) := @instDecidableEqProd _ _ inferInstance inferInstance
instance : Dft (List Fld × S × Int × Int) := inferInstance
instance : Cz (List Fld × S × Int × Int) := inferInstance
instance : Wd (List Fld × S × Int × Int) := inferInstance
instance : DecidableEq (Int × List Fld × S × Int × Int) := @instDecidableEqProd _ _ inferInstance inferInstance
instance : DecidableEq (List Fld × Int × List Fld × S × Int × Int) := @instDecidableEqProd _ _ inferInstance inferInstance
instance : DecidableEq (S × List Fld × Int × List Fld × S × Int × Int) := @instDecidableEqProd _ _ inferInstance inferInstance
instance : Dft (S × List Fld × Int × List Fld × S × Int × Int) := inferInstance
instance : Cz (S × List Fld × Int × List Fld × S × Int × Int) := inferInstance
instance : Wd (S × List Fld × Int × List Fld × S × Int × Int) := inferInstance
instance : DecidableEq (Int × Bool) := @instDecidableEqProd _ _ inferInstance inferInstance
instance : DecidableEq (Int × Int × Bool) := @instDecidableEqProd _ _ inferInstance inferInstance
instance : DecidableEq (S × Int × Int × Bool) := @instDecidableEqProd _ _ inferInstance inferInstance
instance : Dft (S × Int × Int × Bool) := inferInstance
instance : Cz (S × Int × Int × Bool) := inferInstance
instance : Wd (S × Int × Int × Bool) := inferInstance
instance : DecidableEq (List Fld × S × Int × Int × Bool) := @instDecidableEqProd _ _ inferInstance inferInstance
instance : DecidableEq (Int × List Fld × S × Int × Int × Bool) := @instDecidableEqProd _ _ inferInstance inferInstance
instance : DecidableEq (List Fld × Int × List Fld × S × Int × Int × Bool) := @instDecidableEqProd _ _ inferInstance inferInstance
instance : DecidableEq (S × List Fld × Int × List Fld × S × Int × Int × Bool) := @instDecidableEqProd _ _ inferInstance inferInstance
instance : Dft (S × List Fld × Int × List Fld × S × Int × Int × Bool) := inferInstance
instance : Cz (S × List Fld × Int × List Fld × S × Int × Int × Bool) := inferInstance
instance : Wd (S × List Fld × Int × List Fld × S × Int × Int × Bool) := inferInstance
instance : DecidableEq (List Slt × Int) := @instDecidableEqProd _ _ inferInstance inferInstance
instance : DecidableEq (Int × List Slt × Int) := @instDecidableEqProd _ _ inferInstance inferInstance
instance : DecidableEq (Int × Int × List Slt × Int) := @instDecidableEqProd _ _ inferInstance inferInstance
instance : Dft (Int × Int × List Slt × Int) := inferInstance
instance : Cz (Int × Int × List Slt × Int) := inferInstance
instance : Wd (Int × Int × List Slt × Int) := inferInstance
instance : DecidableEq (S × Int) := @instDecidableEqProd _ _ inferInstance inferInstance
instance : Dft (S × Int) := inferInstance
instance : Cz (S × Int) := inferInstance
instance : Wd (S × Int) := inferInstance
instance : DecidableEq (S × Int × List Fld × S × Int × Int) := @instDecidableEqProd _ _ inferInstance inferInstance
instance : DecidableEq (List Fld × S × Int × List Fld × S × Int × Int) := @instDecidableEqProd _ _ inferInstance inferInstance
instance : DecidableEq (S × List Fld × S × Int × List Fld × S × Int × Int) := @instDecidableEqProd _ _ inferInstance inferInstance
instance : Dft (S × List Fld × S × Int × List Fld × S × Int × Int) := inferInstance
instance : Cz (S × List Fld × S × Int × List Fld × S × Int × Int) := inferInstance
instance : Wd (S × List Fld × S × Int × List Fld × S × Int × Int) := inferInstance
instance : DecidableEq (S × S × List Fld × S × Int × List Fld × S × Int × Int) := @instDecidableEqProd _ _ inferInstance inferInstance
instance : DecidableEq (Bool × S × S × List Fld × S × Int × List Fld × S × Int × Int) := @instDecidableEqProd _ _ inferInstance inferInstance
instance : DecidableEq (Bool × Bool × S × S × List Fld × S × Int × List Fld × S × Int × Int) := @instDecidableEqProd _ _ inferInstance inferInstance
instance : DecidableEq (Int × Bool × Bool × S × S × List Fld × S × Int × List Fld × S × Int × Int) := @instDecidableEqProd _ _ inferInstance inferInstance
instance : Dft (Int × Bool × Bool × S × S × List Fld × S × Int × List Fld × S × Int × Int) := inferInstance
instance : Cz (Int × Bool × Bool × S × S × List Fld × S × Int × List Fld × S × Int × Int) := inferInstance
instance : Wd (Int × Bool × Bool × S × S × List Fld × S × Int × List Fld × S × Int × Int) := inferInstance
instance : DecidableEq (Bool × Int × Bool × Bool × S × S × List Fld × S × Int × List Fld × S × Int × Int) := @instDecidableEqProd _ _ inferInstance inferInstance
instance : DecidableEq (S × Bool × Int × Bool × Bool × S × S × List Fld × S × Int × List Fld × S × Int × Int) := @instDecidableEqProd _ _ inferInstance inferInstance
instance : Dft (S × Bool × Int × Bool × Bool × S × S × List Fld × S × Int × List Fld × S × Int × Int) := inferInstance
instance : Cz (S × Bool × Int × Bool × Bool × S × S × List Fld × S × Int × List Fld × S × Int × Int) := inferInstance
instance : Wd (S × Bool × Int × Bool × Bool × S × S × List Fld × S × Int × List Fld × S × Int × Int) := inferInstance
instance : DecidableEq (Bool × List Fld) := @instDecidableEqProd _ _ inferInstance inferInstance
instance : DecidableEq (Bool × Bool × List Fld) := @instDecidableEqProd _ _ inferInstance inferInstance
instance : DecidableEq (Int × Bool × Bool × List Fld) := @instDecidableEqProd _ _ inferInstance inferInstance
instance : Dft (Int × Bool × Bool × List Fld) := inferInstance
instance : Cz (Int × Bool × Bool × List Fld) := inferInstance
instance : Wd (Int × Bool × Bool × List Fld) := inferInstance
instance : DecidableEq (Int × Int × Bool × Bool × List Fld) := @instDecidableEqProd _ _ inferInstance inferInstance
instance : DecidableEq (S × Int × Int × Bool × Bool × List Fld) := @instDecidableEqProd _ _ inferInstance inferInstance
instance : DecidableEq (S × S × Int × Int × Bool × Bool × List Fld) := @instDecidableEqProd _ _ inferInstance inferInstance
instance : Dft (S × S × Int × Int × Bool × Bool × List Fld) := inferInstance
instance : Cz (S × S × Int × Int × Bool × Bool × List Fld) := inferInstance
instance : Wd (S × S × Int × Int × Bool × Bool × List Fld) := inferInstance
instance : DecidableEq (Int × S × Int × Int) := @instDecidableEqProd _ _ inferInstance inferInstance
instance : Dft (Int × S × Int × Int) := inferInstance
instance : Cz (Int × S × Int × Int) := inferInstance
instance : Wd (Int × S × Int × Int) := inferInstance
instance : DecidableEq (Int × Int × S × Int × Int) := @instDecidableEqProd _ _ inferInstance inferInstance
instance : DecidableEq (Int × Int × Int × S × Int × Int) := @instDecidableEqProd _ _ inferInstance inferInstance
instance : Dft (Int × Int × Int × S × Int × Int) := inferInstance
instance : Cz (Int × Int × Int × S × Int × Int) := inferInstance
instance : Wd (Int × Int × Int × S × Int × Int) := inferInstance
instance : DecidableEq (S × List Tld) := @instDecidableEqProd _ _ inferInstance inferInstance
instance : DecidableEq (List Fld × S × List Tld) := @instDecidableEqProd _ _ inferInstance inferInstance
instance : DecidableEq (Int × List Fld × S × List Tld) := @instDecidableEqProd _ _ inferInstance inferInstance
instance : Dft (Int × List Fld × S × List Tld) := inferInstance
instance : Cz (Int × List Fld × S × List Tld) := inferInstance
instance : Wd (Int × List Fld × S × List Tld) := inferInstance
instance : DecidableEq (Bool × Int × List Fld × S × List Tld) := @instDecidableEqProd _ _ inferInstance inferInstance
instance : DecidableEq (Int × Bool × Int × List Fld × S × List Tld) := @instDecidableEqProd _ _ inferInstance inferInstance
instance : DecidableEq (Int × Int × Bool × Int × List Fld × S × List Tld) := @instDecidableEqProd _ _ inferInstance inferInstance
instance : DecidableEq (Int × Int × Int × Bool × Int × List Fld × S × List Tld) := @instDecidableEqProd _ _ inferInstance inferInstance
instance : Dft (Int × Int × Int × Bool × Int × List Fld × S × List Tld) := inferInstance
instance : Cz (Int × Int × Int × Bool × Int × List Fld × S × List Tld) := inferInstance
instance : Wd (Int × Int × Int × Bool × Int × List Fld × S × List Tld) := inferInstance
instance : DecidableEq (Int × Int × Int × Int × Bool × Int × List Fld × S × List Tld) := @instDecidableEqProd _ _ inferInstance inferInstance
instance : DecidableEq (Bool × Int × Int × Int × Int × Bool × Int × List Fld × S × List Tld) := @instDecidableEqProd _ _ inferInstance inferInstance
instance : DecidableEq (Int × Bool × Int × Int × Int × Int × Bool × Int × List Fld × S × List Tld) := @instDecidableEqProd _ _ inferInstance inferInstance
instance : DecidableEq (Int × Int × Bool × Int × Int × Int × Int × Bool × Int × List Fld × S × List Tld) := @instDecidableEqProd _ _ inferInstance inferInstance
instance : Dft (Int × Int × Bool × Int × Int × Int × Int × Bool × Int × List Fld × S × List Tld) := inferInstance
instance : Cz (Int × Int × Bool × Int × Int × Int × Int × Bool × Int × List Fld × S × List Tld) := inferInstance
instance : Wd (Int × Int × Bool × Int × Int × Int × Int × Bool × Int × List Fld × S × List Tld) := inferInstance
instance : DecidableEq (S × Int × Int × Bool × Int × Int × Int × Int × Bool × Int × List Fld × S × List Tld) := @instDecidableEqProd _ _ inferInstance inferInstance
instance : DecidableEq (List Fld × S × Int × Int × Bool × Int × Int × Int × Int × Bool × Int × List Fld × S × List Tld) := @instDecidableEqProd _ _ inferInstance inferInstance
instance : DecidableEq (Int × List Fld × S × Int × Int × Bool × Int × Int × Int × Int × Bool × Int × List Fld × S × List Tld) := @instDecidableEqProd _ _ inferInstance inferInstance
instance : DecidableEq (List Fld × Int × List Fld × S × Int × Int × Bool × Int × Int × Int × Int × Bool × Int × List Fld × S × List Tld) := @instDecidableEqProd _ _ inferInstance inferInstance
instance : Dft (List Fld × Int × List Fld × S × Int × Int × Bool × Int × Int × Int × Int × Bool × Int × List Fld × S × List Tld) := inferInstance
instance : Cz (List Fld × Int × List Fld × S × Int × Int × Bool × Int × Int × Int × Int × Bool × Int × List Fld × S × List Tld) := inferInstance
instance : Wd (List Fld × Int × List Fld × S × Int × Int × Bool × Int × Int × Int × Int × Bool × Int × List Fld × S × List Tld) := inferInstance
instance : DecidableEq (S × List Fld × Int × List Fld × S × Int × Int × Bool × Int × Int × Int × Int × Bool × Int × List Fld × S × List Tld) := @instDecidableEqProd _ _ inferInstance inferInstance
instance : DecidableEq (S × S × List Fld × Int × List Fld × S × Int × Int × Bool × Int × Int × Int × Int × Bool × Int × List Fld × S × List Tld) := @instDecidableEqProd _ _ inferInstance inferInstance
instance : DecidableEq (List Fld × S × S × List Fld × Int × List Fld × S × Int × Int × Bool × Int × Int × Int × Int × Bool × Int × List Fld × S × List Tld) := @instDecidableEqProd _ _ inferInstance inferInstance
instance : DecidableEq (S × List Fld × S × S × List Fld × Int × List Fld × S × Int × Int × Bool × Int × Int × Int × Int × Bool × Int × List Fld × S × List Tld) := @instDecidableEqProd _ _ inferInstance inferInstance
instance : Dft (S × List Fld × S × S × List Fld × Int × List Fld × S × Int × Int × Bool × Int × Int × Int × Int × Bool × Int × List Fld × S × List Tld) := inferInstance
instance : Cz (S × List Fld × S × S × List Fld × Int × List Fld × S × Int × Int × Bool × Int × Int × Int × Int × Bool × Int × List Fld × S × List Tld) := inferInstance
instance : Wd (S × List Fld × S × S × List Fld × Int × List Fld × S × Int × Int × Bool × Int × Int × Int × Int × Bool × Int × List Fld × S × List Tld) := inferInstance
instance : DecidableEq (S × S × List Fld × S × S × List Fld × Int × List Fld × S × Int × Int × Bool × Int × Int × Int × Int × Bool × Int × List Fld × S × List Tld) := @instDecidableEqProd _ _ inferInstance inferInstance
instance : DecidableEq (S × S × S × List Fld × S × S × List Fld × Int × List Fld × S × Int × Int × Bool × Int × Int × Int × Int × Bool × Int × List Fld × S × List Tld) := @instDecidableEqProd _ _ inferInstance inferInstance
instance : DecidableEq (List Fld × S × S × S × List Fld × S × S × List Fld × Int × List Fld × S × Int × Int × Bool × Int × Int × Int × Int × Bool × Int × List Fld × S × List Tld) := @instDecidableEqProd _ _ inferInstance inferInstance
instance : DecidableEq (S × List Fld × S × S × S × List Fld × S × S × List Fld × Int × List Fld × S × Int × Int × Bool × Int × Int × Int × Int × Bool × Int × List Fld × S × List Tld) := @instDecidableEqProd _ _ inferInstance inferInstance
instance : Dft (S × List Fld × S × S × S × List Fld × S × S × List Fld × Int × List Fld × S × Int × Int × Bool × Int × Int × Int × Int × Bool × Int × List Fld × S × List Tld) := inferInstance
instance : Cz (S × List Fld × S × S × S × List Fld × S × S × List Fld × Int × List Fld × S × Int × Int × Bool × Int × Int × Int × Int × Bool × Int × List Fld × S × List Tld) := inferInstance
instance : Wd (S × List Fld × S × S × S × List Fld × S × S × List Fld × Int × List Fld × S × Int × Int × Bool × Int × Int × Int × Int × Bool × Int × List Fld × S × List Tld) := inferInstance
instance : DecidableEq (S × S × List Fld × S × S × S × List Fld × S × S × List Fld × Int × List Fld × S × Int × Int × Bool × Int × Int × Int × Int × Bool × Int × List Fld × S × List Tld) := @instDecidableEqProd _ _ inferInstance inferInstance
instance : DecidableEq (Int × S × S × List Fld × S × S × S × List Fld × S × S × List Fld × Int × List Fld × S × Int × Int × Bool × Int × Int × Int × Int × Bool × Int × List Fld × S × List Tld) := @instDecidableEqProd _ _ inferInstance inferInstance
instance : DecidableEq (S × Int × S × S × List Fld × S × S × S × List Fld × S × S × List Fld × Int × List Fld × S × Int × Int × Bool × Int × Int × Int × Int × Bool × Int × List Fld × S × List Tld) := @instDecidableEqProd _ _ inferInstance inferInstance
instance : DecidableEq (Int × S × Int × S × S × List Fld × S × S × S × List Fld × S × S × List Fld × Int × List Fld × S × Int × Int × Bool × Int × Int × Int × Int × Bool × Int × List Fld × S × List Tld) := @instDecidableEqProd _ _ inferInstance inferInstance
instance : Dft (Int × S × Int × S × S × List Fld × S × S × S × List Fld × S × S × List Fld × Int × List Fld × S × Int × Int × Bool × Int × Int × Int × Int × Bool × Int × List Fld × S × List Tld) := inferInstance
instance : Cz (Int × S × Int × S × S × List Fld × S × S × S × List Fld × S × S × List Fld × Int × List Fld × S × Int × Int × Bool × Int × Int × Int × Int × Bool × Int × List Fld × S × List Tld) := inferInstance
instance : Wd (Int × S × Int × S × S × List Fld × S × S × S × List Fld × S × S × List Fld × Int × List Fld × S × Int × Int × Bool × Int × Int × Int × Int × Bool × Int × List Fld × S × List Tld) := inferInstance
instance : DecidableEq (List Shd × List Gen) := @instDecidableEqProd _ _ inferInstance inferInstance
instance : Dft (List Shd × List Gen) := inferInstance
instance : Cz (List Shd × List Gen) := inferInstance
instance : Wd (List Shd × List Gen) := inferInstance
instance : DecidableEq (List Rsc × List Evt) := @instDecidableEqProd _ _ inferInstance inferInstance
instance : DecidableEq (List Flt × List Rsc × List Evt) := @instDecidableEqProd _ _ inferInstance inferInstance
instance : DecidableEq (List Gen × List Flt × List Rsc × List Evt) := @instDecidableEqProd _ _ inferInstance inferInstance
instance : Dft (List Gen × List Flt × List Rsc × List Evt) := inferInstance
instance : Cz (List Gen × List Flt × List Rsc × List Evt) := inferInstance
instance : Wd (List Gen × List Flt × List Rsc × List Evt) := inferInstance
instance : DecidableEq (List Shd × List Gen × List Flt × List Rsc × List Evt) := @instDecidableEqProd _ _ inferInstance inferInstance
instance : DecidableEq (List Cnn × List Shd × List Gen × List Flt × List Rsc × List Evt) := @instDecidableEqProd _ _ inferInstance inferInstance
instance : DecidableEq (Int × List Cnn × List Shd × List Gen × List Flt × List Rsc × List Evt) := @instDecidableEqProd _ _ inferInstance inferInstance
instance : DecidableEq (Int × Int × List Cnn × List Shd × List Gen × List Flt × List Rsc × List Evt) := @instDecidableEqProd _ _ inferInstance inferInstance
instance : Dft (Int × Int × List Cnn × List Shd × List Gen × List Flt × List Rsc × List Evt) := inferInstance
instance : Cz (Int × Int × List Cnn × List Shd × List Gen × List Flt × List Rsc × List Evt) := inferInstance
instance : Wd (Int × Int × List Cnn × List Shd × List Gen × List Flt × List Rsc × List Evt) := inferInstance
theorem wd_pair {α β : Type} [Wd α] [Wd β] {x : α × β} : wd x ↔ wd x.1 ∧ wd x.2 := Iff.rfl
theorem wf_wd {s : ByteArray} : wf .str s = wd s := by simp only [wf]; rfl
theorem wd_mem {α : Type} [Wd α] {xs : List α} (h : wd xs) {x : α} (hx : x ∈ xs) : wd x := by
  obtain ⟨i, hi⟩ := List.mem_iff_getElem?.1 hx
  exact h.2 i x hi

def szF {α : Type} [Cz α] (x : α) (k : Int) : Int := leftI (cz x) k
def pSz {α : Type} [Wd α] (x : α) (k : Int) : Prop := wd x ∧ 0 ≤ k ∧ k ≤ capI
def eqF {α : Type} [DecidableEq α] (x y : α) : Bool := decide (x = y)
def pEq {α : Type} [Wd α] (x _y : α) : Prop := wd x
theorem eqF_iff {α : Type} [DecidableEq α] {x y : α} : eqF x y = true ↔ x = y := decide_eq_true_iff
def toF {α : Type} (x : α) : α := x
def pTo {α : Type} [Cz α] (x : α) : Prop := cz x ≤ 1048576

def lit (l : List Nat) : ByteArray := ⟨(l.map UInt8.ofNat).toArray⟩
abbrev bs (s : ByteArray) : List UInt8 := s.data.toList
def ob (l : List UInt8) : ByteArray := ⟨l.toArray⟩
theorem bs_ob (l : List UInt8) : bs (ob l) = l := rfl
theorem ob_bs (s : ByteArray) : ob (bs s) = s := rfl
theorem bs_inj {s t : ByteArray} (h : bs s = bs t) : s = t := by rw [← ob_bs s, h, ob_bs]
theorem bs_len (s : ByteArray) : (bs s).length = s.size := by
  show s.data.toList.length = s.data.size
  exact Array.length_toList
theorem ob_size (l : List UInt8) : (ob l).size = l.length := by rw [← bs_len, bs_ob]
theorem bs_append (s t : ByteArray) : bs (s ++ t) = bs s ++ bs t := by
  show (s ++ t).data.toList = _
  rw [ByteArray.data_append, Array.toList_append]
theorem bs_lit (l : List Nat) : bs (lit l) = l.map UInt8.ofNat := rfl
theorem size_append (s t : ByteArray) : (s ++ t).size = s.size + t.size := by rw [← bs_len, bs_append, List.length_append, bs_len, bs_len]
theorem wrap64 {n : Int} (h0 : -9223372036854775808 ≤ n) (h1 : n < 9223372036854775808) : IntKind.i64.wrap n = n := wrapI n h0 h1
theorem loopI {α : Type} {Lp : α → Prop} {B : α → Prop} (hL : ∀ y, B y → Lp y) (I : α → Prop) (m : α → Nat) (step : ∀ y, I y → (∀ y', I y' → m y' < m y → Lp y') → B y) : ∀ y, I y → Lp y := by
  have key : ∀ (n : Nat) (y : α), m y = n → I y → Lp y := by
    intro n
    induction n using Nat.strongRecOn with
    | _ n ih =>
      intro y hm hI
      exact hL y (step y hI fun y' hI' hlt => ih (m y') (by omega) y' rfl hI')
  exact fun y hI => key _ y rfl hI
instance {s t : ByteArray} : Decidable (strLt s t) := inferInstanceAs (Decidable (_ = _))
def idxI {α : Type} (p : α → Bool) (xs : List α) : Int := match xs.findIdx? p with
  | some i => (i : Int)
  | none => -1
theorem idxI_at {α : Type} {p : α → Bool} {xs : List α} {i : Nat} (hi : i < xs.length) (hp : p xs[i] = true) (hb : ∀ j (h : j < i), p (xs[j]'(by omega)) = false) : idxI p xs = (i : Int) := by
  have : xs.findIdx? p = some i := by
    rw [List.findIdx?_eq_some_iff_getElem]
    exact ⟨hi, hp, fun j hj => by simp [hb j hj]⟩
  unfold idxI
  rw [this]
theorem idxI_none {α : Type} {p : α → Bool} {xs : List α} (hb : ∀ j (h : j < xs.length), p xs[j] = false) : idxI p xs = -1 := by
  have : xs.findIdx? p = none := by
    rw [List.findIdx?_eq_none_iff]
    intro x hx
    obtain ⟨j, hj, rfl⟩ := List.mem_iff_getElem.1 hx
    exact hb j hj
  unfold idxI
  rw [this]
end Go.Ev
namespace Go.Ev
theorem ct_by {P : Program} {E : Env} {w : World} {H : Nat → List CT} {fn : Func} {c : Ct} (hE : EnvOk P E) (hC : EnvCts P E w w.heap.size) (hf : P.funcs[c.f]? = some fn) (hname : (fn.name == "runtime.NumGoroutine") = false)
    {A : Prop} (hA : A) (hev : A = ∀ x, c.pre x → evalFn E H fn c.ps c.rs c.shared x fun r => r = c.F x) (hdp : E.deep = c.deep := by rfl) : CtAt P c w := ct_ok hE hC hf hname hdp (hev ▸ hA)
theorem ctm_by {P : Program} {E : Env} {n : Nat} {w : World} {H : Nat → List CT} {fn : Func} {c : CtM} (hE : EnvOk P E) (hC : EnvCts P E w n) (hf : P.funcs[c.f]? = some fn) (hname : (fn.name == "runtime.NumGoroutine") = false)
    {A : Prop} (hA : A) (hev : A = ∀ x, c.pre x → evalM E H fn c.ps c.rs x fun r y => r = c.F x ∧ y = c.W x) (hdp : E.deep = c.deep := by rfl) (hq : c.q = false := by rfl) : CtMAt P c n w := ctm_ok hE hC hf hname hdp (hev ▸ hA) hq
theorem ctq_by {P : Program} {E : Env} {n : Nat} {w : World} {H : Nat → List CT} {fn : Func} {c : CtM} (hE : EnvOk P E) (hC : EnvCts P E w n) (hf : P.funcs[c.f]? = some fn) (hname : (fn.name == "runtime.NumGoroutine") = false)
    {A : Prop} (hA : A) (hev : A = ∀ x, c.pre x → evalQ E H fn c.ps c.rs x fun r y => r = c.F x ∧ y = c.W x) (hdp : E.deep = c.deep := by rfl) (hq : c.q = true := by rfl) : CtMAt P c n w := ctq_ok hE hC hf hname hdp hq (hev ▸ hA)
theorem loopN {Lp B : Int → Prop} (hL : ∀ y, B y → Lp y) (n : Nat) (hn : n ≤ 9223372036854775807) (I : Nat → Prop) (step : ∀ i : Nat, i ≤ n → I i → (i < n → I (i + 1) → Lp (IntKind.i64.wrap ((i : Int) + 1))) → B (i : Int)) (h0 : I 0) : Lp 0 := by
  have key : ∀ m i : Nat, i + m = n → I i → Lp (i : Int) := by
    intro m
    induction m with
    | zero => exact fun i hi hI => hL _ (step i (by omega) hI fun h => absurd h (by omega))
    | succ m ih =>
      exact fun i hi hI => hL _ (step i (by omega) hI fun h hI' => by
        rw [wrap64 (by omega) (by omega)]
        exact ih (i + 1) (by omega) hI')
  exact key n 0 (by omega) h0
theorem loopG {σ : Type} {Lp B : σ → Prop} (hL : ∀ y, B y → Lp y) (n : Nat) (I : Nat → σ → Prop) (step : ∀ (i : Nat) (s : σ), i ≤ n → I i s → (∀ s', i < n → I (i + 1) s' → Lp s') → B s) {s0 : σ} (h0 : I 0 s0) : Lp s0 := by
  have key : ∀ (m i : Nat) (s : σ), i + m = n → I i s → Lp s := by
    intro m
    induction m with
    | zero => exact fun i s hi hI => hL _ (step i s (by omega) hI fun s' h => absurd h (by omega))
    | succ m ih => exact fun i s hi hI => hL _ (step i s (by omega) hI fun s' h hI' => ih (i + 1) s' (by omega) hI')
  exact key n 0 s0 (by omega) h0
theorem wrapS {i : Nat} (h : i ≤ 4611686018427387904) : IntKind.i64.wrap ((i : Int) + 1) = ((i + 1 : Nat) : Int) := by
  rw [wrap64 (by omega) (by omega)]; omega
theorem take_succ_app {α : Type} {l : List α} {i : Nat} (h : i < l.length) : l.take (i + 1) = l.take i ++ [l[i]] := by
  rw [List.take_add_one, List.getElem?_eq_getElem h]; rfl
theorem rx_get {α : Type} [Dft α] (xs : List α) {i : Nat} (h : i < xs.length) : rx xs (i : Int) = xs[i] := rx_nat xs i h
theorem md_mem {α : Type} [Cz α] {xs : List α} (h : cz xs ≤ 1048576) {x : α} (hx : x ∈ xs) : cz x ≤ 1048576 := by
  have := cz_mem hx
  omega
end Go.Ev
end

section
/- The plain library: what the program's functions compute, as Lean functions; and what they ask of their arguments. -/
set_option linter.unusedVariables false
namespace Go.Ev
def md {α : Type} [Cz α] (x : α) : Prop := cz x ≤ 1048576

def joinL (sep : S) : List S → S
  | [] => lit []
  | [x] => x
  | x :: y :: r => x ++ sep ++ joinL sep (y :: r)
def mJoin (xs : List S) (sep : S) : S := joinL sep xs
def pJoin (xs : List S) (sep : S) : Prop := xs.length ≤ 1073741824 ∧ sumN (xs.map fun x => x.size) ≤ 1073741824 ∧ sep.size ≤ 16
def mItoa (n : Int) : S := ob (Lib.itoa n)
def mDec (n : Int) : S := mItoa n
def valuesOf (l : List Fld) (n : S) : List S := (l.filter fun f => decide (f.1 = n)).map fun f => f.2
def mFieldGet (l : List Fld) (n : S) : S × Bool := (mJoin (valuesOf l n) (lit [44, 32]), decide (0 < (valuesOf l n).length))
def pFieldGet (l : List Fld) (n : S) : Prop := md l
end Go.Ev
end

section
/- The plain library: what a cache's functions compute. -/
set_option linter.unusedVariables false
namespace Go.Ev
end Go.Ev
end

section
/- The plain library: what the laws' marks are. -/
set_option linter.unusedVariables false
namespace Go.Ev
def mMarkText (k : Int) : S := if k ≤ 0 then lit [109, 48] else lit [109] ++ mDec k
def pMarkText (k : Int) : Prop := in64 k
def markFld : List Fld → Int → List Fld
  | [], _ => []
  | _ :: r, k => (mMarkText k, mMarkText (k + 1)) :: markFld r (k + 2)
def heldFld : List Fld → Int → Int
  | [], k => k
  | f :: r, k => if f.1 ≠ mMarkText k then -1 else if f.2 ≠ mMarkText (k + 1) then -1 else heldFld r (k + 2)
def pMk (n : Nat) (k : Int) : Prop := 0 ≤ k ∧ k ≤ 1099511627776 ∧ n ≤ 1099511627776
def mMarkFieldS (l : List Fld) (k : Int) : Int := k + 2 * l.length
def wMarkFieldS (l : List Fld) (k : Int) : List Fld × Int := (markFld l k, k)
def pMarkFieldS (l : List Fld) (k : Int) : Prop := pMk l.length k
def mHeldFieldS (l : List Fld) (k : Int) : Int := heldFld l k
def pHeldFieldS (l : List Fld) (k : Int) : Prop := pMk l.length k
def mMarkResponse (r : Rsp) (k : Int) : Int := mMarkFieldS r.2.1 k
def wMarkResponse (r : Rsp) (k : Int) : Rsp × Int := ((r.1, markFld r.2.1 k, r.2.2), k)
def pMarkResponse (r : Rsp) (k : Int) : Prop := pMarkFieldS r.2.1 k
theorem markFld_length : ∀ (l : List Fld) (k : Int), (markFld l k).length = l.length
  | [], _ => rfl
  | _ :: r, k => by simp [markFld, markFld_length r]
theorem held_mark : ∀ (l : List Fld) (k : Int), heldFld (markFld l k) k = k + 2 * l.length
  | [], k => by simp [markFld, heldFld]
  | _ :: r, k => by
    simp only [markFld, heldFld, ne_eq, not_true_eq_false, if_false, held_mark r, List.length_cons]
    omega
theorem markFld_get : ∀ (l : List Fld) (k : Int) (i : Nat) (h : i < l.length), (markFld l k)[i]'(by rw [markFld_length]; exact h) = (mMarkText (k + 2 * i), mMarkText (k + 2 * i + 1))
  | f :: r, k, 0, h => by simp [markFld]
  | f :: r, k, i + 1, h => by
    simp only [markFld, List.getElem_cons_succ]
    rw [markFld_get r (k + 2) i (by simpa using h)]
    rw [show k + 2 + 2 * (i : Int) = k + 2 * ((i + 1 : Nat) : Int) by omega]
end Go.Ev
end

section
/- The plain library: marks of texts in a row, FieldSet and WithAge. -/
set_option linter.unusedVariables false
namespace Go.Ev
def mHeldResponse (r : Rsp) (k : Int) : Int := if mHeldFieldS r.2.1 k < 0 then -1 else mHeldFieldS r.2.1 k
def pHeldResponse (r : Rsp) (k : Int) : Prop := pHeldFieldS r.2.1 k
def fset : List Fld → S → S → Bool → List Fld
  | [], n, v, put => if put = true then [] else [(n, v)]
  | f :: r, n, v, put => if f.1 ≠ n then f :: fset r n v put else if put = true then fset r n v true else (n, v) :: fset r n v true
def mFieldSet (l : List Fld) (n v : S) : List Fld := fset l n v false
def pFieldSet (l : List Fld) (n v : S) : Prop := l.length ≤ 1099511627776
theorem fset_length : ∀ (l : List Fld) (n v : S) (b : Bool), (fset l n v b).length ≤ l.length + 1
  | [], n, v, b => by unfold fset; split <;> simp
  | f :: r, n, v, b => by
    have h1 := fset_length r n v b
    have h2 := fset_length r n v true
    unfold fset
    split
    · simp only [List.length_cons]; omega
    · split
      · simp only [List.length_cons]; omega
      · simp only [List.length_cons]; omega
theorem fset_mem : ∀ (l : List Fld) (n v : S) (b : Bool) (x : Fld), x ∈ fset l n v b → x ∈ l ∨ x = (n, v)
  | [], n, v, b, x, h => by
    unfold fset at h
    split at h
    · cases h
    · exact .inr (by simpa using h)
  | f :: r, n, v, b, x, h => by
    unfold fset at h
    split at h
    · rcases List.mem_cons.1 h with h | h
      · exact .inl (by rw [h]; exact List.mem_cons_self)
      · exact (fset_mem r n v b x h).imp (fun h => List.mem_cons_of_mem _ h) id
    · split at h
      · exact (fset_mem r n v true x h).imp (fun h => List.mem_cons_of_mem _ h) id
      · rcases List.mem_cons.1 h with h | h
        · exact .inr h
        · exact (fset_mem r n v true x h).imp (fun h => List.mem_cons_of_mem _ h) id
end Go.Ev
end

section
/- The plain library: marks of what has slices in its slices; copies; ShardTouch. -/
set_option linter.unusedVariables false
namespace Go.Ev
def mClone_Field (l : List Fld) : List Fld := l
def pClone_Field (l : List Fld) : Prop := l.length ≤ 1099511627776
def mCloneResponse (r : Rsp) : Rsp := r
def pCloneResponse (r : Rsp) : Prop := md r
end Go.Ev
end

section
/- The plain library: what looks at an origin ask, what refreshes. -/
set_option linter.unusedVariables false
namespace Go.Ev
def mFieldDrop_1 (f : Fld) (n : S) : Bool := decide (f.1 = n)
def pFieldDrop_1 (f : Fld) (n : S) : Prop := True
def mIndexFunc_FieldDrop_1 (l : List Fld) (n : S) : Int := idxI (fun f => mFieldDrop_1 f n) l
def pIndexFunc_FieldDrop_1 (l : List Fld) (n : S) : Prop := l.length ≤ 1099511627776
def mFieldDrop (l : List Fld) (n : S) : List Fld := l.filter fun f => decide (f.1 ≠ n)
def pFieldDrop (l : List Fld) (n : S) : Prop := l.length ≤ 1099511627776
def mDeleteFunc_FieldDrop_1 (l : List Fld) (n : S) : List Fld := mFieldDrop l n
def pDeleteFunc_FieldDrop_1 (l : List Fld) (n : S) : Prop := l.length ≤ 1099511627776
theorem fieldDrop_len (l : List Fld) (n : S) : (mFieldDrop l n).length ≤ l.length := List.length_filter_le _ _
def nLength : S := lit [99, 111, 110, 116, 101, 110, 116, 45, 108, 101, 110, 103, 116, 104]
def nCoding : S := lit [116, 114, 97, 110, 115, 102, 101, 114, 45, 101, 110, 99, 111, 100, 105, 110, 103]
def mWithoutBody (l : List Fld) : List Fld := mFieldDrop (mFieldDrop l nLength) nCoding
def pWithoutBody (l : List Fld) : Prop := l.length ≤ 1099511627776
def setAllF (rf : List Fld) (acc : List Fld) (ns : List Fld) : List Fld := ns.foldl (fun a f => mFieldSet a f.1 (mFieldGet rf f.1).1) acc
def mRefreshed (o r : Rsp) : Rsp := (o.1, setAllF r.2.1 o.2.1 (mWithoutBody r.2.1), o.2.2)
def pRefreshed (o r : Rsp) : Prop := md o ∧ md r
end Go.Ev
end

section
/- What the program's functions come to, each by itself: printed by a program of this session's own (EwShow) out of the small machine. -/
set_option linter.unusedVariables false
namespace Go.Ev

def s_impl_cloneResponse (a0 : Rsp) (Q : (Rsp → Prop)) : Prop :=
  pClone_Field a0.2.1 ∧
  (Q (a0.1, (mClone_Field a0.2.1), a0.2.2))

def s_slices_Clone_Field (a0 : (List Fld)) (Q : ((List Fld) → Prop)) : Prop :=
  (∀ y0 : Bool,
    ((
        (y0 = true →
          a0 = [])
      ) →
      (y0 = true →
        (Q [])) ∧
      (¬ (y0 = true) →
        (([] : List Fld).length + a0.length) * 32 ≤ 140737488355328 ∧
        (Q ([] ++ a0)))))

end Go.Ev
end

section
/- What the program's functions come to, each by itself: printed by a program of this session's own (EwShow) out of the small machine. -/
set_option linter.unusedVariables false
namespace Go.Ev

def s_impl_FieldSet (a0 : (List Fld)) (a1 : S) (a2 : S) (Q : ((List Fld) → Prop)) : Prop :=
  (∀ L0 : (((List Fld) × (Bool × Int)) → Prop),
    ((
        (∀ y1 : ((List Fld) × (Bool × Int)),
          ((
              (y1.2.2 < (a0.length : Int) →
                0 ≤ y1.2.2 ∧
                y1.2.2 < (a0.length : Int) ∧
                ((rx a0 y1.2.2).1 ≠ a1 →
                  (y1.1.length + [(rx a0 y1.2.2)].length) * 32 ≤ 140737488355328 ∧
                  (L0 ((y1.1 ++ [(rx a0 y1.2.2)]), y1.2.1, (IntKind.i64.wrap (y1.2.2 + 1))))) ∧
                (¬ ((rx a0 y1.2.2).1 ≠ a1) →
                  (¬ (y1.2.1 = true) →
                    (y1.1.length + [(a1, a2)].length) * 32 ≤ 140737488355328 ∧
                    (L0 ((y1.1 ++ [(a1, a2)]), true, (IntKind.i64.wrap (y1.2.2 + 1))))) ∧
                  (¬ (¬ (y1.2.1 = true)) →
                    (L0 (y1.1, y1.2.1, (IntKind.i64.wrap (y1.2.2 + 1))))))) ∧
              (¬ (y1.2.2 < (a0.length : Int)) →
                (¬ (y1.2.1 = true) →
                  (y1.1.length + [(a1, a2)].length) * 32 ≤ 140737488355328 ∧
                  (Q (y1.1 ++ [(a1, a2)]))) ∧
                (¬ (¬ (y1.2.1 = true)) →
                  (Q y1.1)))
            ) →
            (L0 y1)))
      ) →
      (L0 ([], false, 0))))

def s_laws_heldResponse (a0 : Rsp) (a1 : Int) (Q : (Int → Prop)) : Prop :=
  pHeldFieldS a0.2.1 a1 ∧
  ((mHeldFieldS a0.2.1 a1) < 0 →
    (Q (-1))) ∧
  (¬ ((mHeldFieldS a0.2.1 a1) < 0) →
    (Q (mHeldFieldS a0.2.1 a1)))

def s_spec_FieldSet (a0 : (List Fld)) (a1 : S) (a2 : S) (Q : ((List Fld) → Prop)) : Prop :=
  (∀ L0 : (((List Fld) × (Bool × Int)) → Prop),
    ((
        (∀ y1 : ((List Fld) × (Bool × Int)),
          ((
              (y1.2.2 < (a0.length : Int) →
                0 ≤ y1.2.2 ∧
                y1.2.2 < (a0.length : Int) ∧
                ((rx a0 y1.2.2).1 ≠ a1 →
                  0 ≤ y1.2.2 ∧
                  y1.2.2 < (a0.length : Int) ∧
                  (y1.1.length + [(rx a0 y1.2.2)].length) * 32 ≤ 140737488355328 ∧
                  (L0 ((y1.1 ++ [(rx a0 y1.2.2)]), y1.2.1, (IntKind.i64.wrap (y1.2.2 + 1))))) ∧
                (¬ ((rx a0 y1.2.2).1 ≠ a1) →
                  (¬ (y1.2.1 = true) →
                    (y1.1.length + [(a1, a2)].length) * 32 ≤ 140737488355328 ∧
                    (L0 ((y1.1 ++ [(a1, a2)]), true, (IntKind.i64.wrap (y1.2.2 + 1))))) ∧
                  (¬ (¬ (y1.2.1 = true)) →
                    (L0 (y1.1, y1.2.1, (IntKind.i64.wrap (y1.2.2 + 1))))))) ∧
              (¬ (y1.2.2 < (a0.length : Int)) →
                (¬ (y1.2.1 = true) →
                  (y1.1.length + [(a1, a2)].length) * 32 ≤ 140737488355328 ∧
                  (Q (y1.1 ++ [(a1, a2)]))) ∧
                (¬ (¬ (y1.2.1 = true)) →
                  (Q y1.1)))
            ) →
            (L0 y1)))
      ) →
      (L0 ([], false, 0))))

end Go.Ev
end

section
/- What the laws' marks come to, and the law of Picked: printed by a program of this session's own (EwShow) out of the small machine. -/
set_option linter.unusedVariables false
namespace Go.Ev

def s_laws_heldFieldS (a0 : (List Fld)) (a1 : Int) (Q : (Int → Prop)) : Prop :=
  (∀ L0 : ((Int × Int) → Prop),
    ((
        (∀ y1 : (Int × Int),
          ((
              (y1.2 < (a0.length : Int) →
                0 ≤ y1.2 ∧
                y1.2 < (a0.length : Int) ∧
                pMarkText y1.1 ∧
                ((rx a0 y1.2).1 ≠ (mMarkText y1.1) →
                  (Q (-1))) ∧
                (¬ ((rx a0 y1.2).1 ≠ (mMarkText y1.1)) →
                  0 ≤ y1.2 ∧
                  y1.2 < (a0.length : Int) ∧
                  pMarkText (IntKind.i64.wrap (y1.1 + 1)) ∧
                  ((rx a0 y1.2).2 ≠ (mMarkText (IntKind.i64.wrap (y1.1 + 1))) →
                    (Q (-1))) ∧
                  (¬ ((rx a0 y1.2).2 ≠ (mMarkText (IntKind.i64.wrap (y1.1 + 1)))) →
                    (L0 ((IntKind.i64.wrap ((IntKind.i64.wrap (y1.1 + 1)) + 1)), (IntKind.i64.wrap (y1.2 + 1))))))) ∧
              (¬ (y1.2 < (a0.length : Int)) →
                (Q y1.1))
            ) →
            (L0 y1)))
      ) →
      (L0 (a1, 0))))

def s_laws_markFieldS (a0 : (List Fld)) (a1 : Int) (Q : (Int → (((List Fld) × Int) → Prop))) : Prop :=
  (∀ L0 : ((Int × (Int × (List Fld))) → Prop),
    ((
        (∀ y1 : (Int × (Int × (List Fld))),
          ((
              (y1.2.1 < (y1.2.2.length : Int) →
                pMarkText y1.1 ∧
                0 ≤ y1.2.1 ∧
                y1.2.1 < (y1.2.2.length : Int) ∧
                pMarkText (IntKind.i64.wrap (y1.1 + 1)) ∧
                0 ≤ y1.2.1 ∧
                y1.2.1 < ((y1.2.2.set y1.2.1.toNat ((mMarkText y1.1), (rx y1.2.2 y1.2.1).2)).length : Int) ∧
                (L0 ((IntKind.i64.wrap ((IntKind.i64.wrap (y1.1 + 1)) + 1)), (IntKind.i64.wrap (y1.2.1 + 1)), ((y1.2.2.set y1.2.1.toNat ((mMarkText y1.1), (rx y1.2.2 y1.2.1).2)).set y1.2.1.toNat ((rx (y1.2.2.set y1.2.1.toNat ((mMarkText y1.1), (rx y1.2.2 y1.2.1).2)) y1.2.1).1, (mMarkText (IntKind.i64.wrap (y1.1 + 1)))))))) ∧
              (¬ (y1.2.1 < (y1.2.2.length : Int)) →
                (Q y1.1 (y1.2.2, a1)))
            ) →
            (L0 y1)))
      ) →
      (L0 (a1, 0, a0))))

def s_laws_markResponse (a0 : Rsp) (a1 : Int) (Q : (Int → ((Rsp × Int) → Prop))) : Prop :=
  pMarkFieldS a0.2.1 a1 ∧
  (Q (mMarkFieldS a0.2.1 a1) ((a0.1, (wMarkFieldS a0.2.1 a1).1, a0.2.2), a1))

def s_laws_markText (a0 : Int) (Q : (S → Prop)) : Prop :=
  (a0 ≤ 0 →
    (Q (lit [109, 48]))) ∧
  (¬ (a0 ≤ 0) →
    (∀ L0 : ((Int × S) → Prop),
      ((
          (∀ y1 : (Int × S),
            ((
                (0 < y1.1 →
                  (10 : Int) ≠ 0 ∧
                  (strOf [(IntKind.u8.wrap (IntKind.i64.wrap (48 + (y1.1.tmod 10))))]).size + y1.2.size ≤ 9223372036854775807 ∧
                  (10 : Int) ≠ 0 ∧
                  (L0 ((IntKind.i64.wrap (y1.1.tdiv 10)), ((strOf [(IntKind.u8.wrap (IntKind.i64.wrap (48 + (y1.1.tmod 10))))]) ++ y1.2)))) ∧
                (¬ (0 < y1.1) →
                  (lit [109]).size + y1.2.size ≤ 9223372036854775807 ∧
                  (Q ((lit [109]) ++ y1.2)))
              ) →
              (L0 y1)))
        ) →
        (L0 (a0, (lit []))))))

end Go.Ev
end

section
/- What more of the laws' functions come to: printed by a program of this session's own (EwShow) out of the small machine. -/
set_option linter.unusedVariables false
namespace Go.Ev

end Go.Ev
end

section
/- What the laws' functions come to: printed by a program of this session's own (EwShow) out of the small machine. -/
set_option linter.unusedVariables false
namespace Go.Ev

end Go.Ev
end

section
/- What the program's functions come to, each by itself: printed by a program of this session's own (EwShow) out of the small machine. -/
set_option linter.unusedVariables false
namespace Go.Ev

def s_impl_FieldGet (a0 : (List Fld)) (a1 : S) (Q : ((S × Bool) → Prop)) : Prop :=
  (∀ L0 : (((List S) × Int) → Prop),
    ((
        (∀ y1 : ((List S) × Int),
          ((
              (y1.2 < (a0.length : Int) →
                0 ≤ y1.2 ∧
                y1.2 < (a0.length : Int) ∧
                ((rx a0 y1.2).1 = a1 →
                  (y1.1.length + [(rx a0 y1.2).2].length) * 16 ≤ 140737488355328 ∧
                  (L0 ((y1.1 ++ [(rx a0 y1.2).2]), (IntKind.i64.wrap (y1.2 + 1))))) ∧
                (¬ ((rx a0 y1.2).1 = a1) →
                  (L0 (y1.1, (IntKind.i64.wrap (y1.2 + 1)))))) ∧
              (¬ (y1.2 < (a0.length : Int)) →
                pJoin y1.1 (lit [44, 32]) ∧
                (Q ((mJoin y1.1 (lit [44, 32])), (decide (0 < (y1.1.length : Int))))))
            ) →
            (L0 y1)))
      ) →
      (L0 ([], 0))))

def s_spec_FieldGet (a0 : (List Fld)) (a1 : S) (Q : ((S × Bool) → Prop)) : Prop :=
  (∀ L0 : ((S × (Bool × Int)) → Prop),
    ((
        (∀ y1 : (S × (Bool × Int)),
          ((
              (y1.2.2 < (a0.length : Int) →
                0 ≤ y1.2.2 ∧
                y1.2.2 < (a0.length : Int) ∧
                ((rx a0 y1.2.2).1 ≠ a1 →
                  (L0 (y1.1, y1.2.1, (IntKind.i64.wrap (y1.2.2 + 1))))) ∧
                (¬ ((rx a0 y1.2.2).1 ≠ a1) →
                  (y1.2.1 = true →
                    y1.1.size + (lit [44, 32]).size ≤ 9223372036854775807 ∧
                    0 ≤ y1.2.2 ∧
                    y1.2.2 < (a0.length : Int) ∧
                    (y1.1 ++ (lit [44, 32])).size + (rx a0 y1.2.2).2.size ≤ 9223372036854775807 ∧
                    (L0 (((y1.1 ++ (lit [44, 32])) ++ (rx a0 y1.2.2).2), true, (IntKind.i64.wrap (y1.2.2 + 1))))) ∧
                  (¬ (y1.2.1 = true) →
                    0 ≤ y1.2.2 ∧
                    y1.2.2 < (a0.length : Int) ∧
                    y1.1.size + (rx a0 y1.2.2).2.size ≤ 9223372036854775807 ∧
                    (L0 ((y1.1 ++ (rx a0 y1.2.2).2), true, (IntKind.i64.wrap (y1.2.2 + 1))))))) ∧
              (¬ (y1.2.2 < (a0.length : Int)) →
                (Q (y1.1, y1.2.1)))
            ) →
            (L0 y1)))
      ) →
      (L0 ((lit []), false, 0))))

end Go.Ev
end

section
/- Laws of the plain library: what the functions come to is what they compute. First part: small ones. -/
set_option linter.unusedVariables false
namespace Go.Ev

end Go.Ev
end

section
/- Laws of the plain library, second part: searches. -/
set_option linter.unusedVariables false
namespace Go.Ev

def scanS {α : Type} [Dft α] (xs : List α) (P C : α → Prop) (Qh : Int → Prop) (Qe : Prop) : Prop :=
  ∀ L : Int → Prop, (∀ y : Int, ((y < (xs.length : Int) → 0 ≤ y ∧ y < (xs.length : Int) ∧ P (rx xs y) ∧ ((C (rx xs y) → Qh y) ∧ (¬ C (rx xs y) → L (IntKind.i64.wrap (y + 1))))) ∧
    (¬ y < (xs.length : Int) → Qe)) → L y) → L 0
theorem scanS_ok {α : Type} [Dft α] {xs : List α} {P C : α → Prop} {Qh : Int → Prop} {Qe : Prop} (hlen : xs.length ≤ maxLen) (hP : ∀ x ∈ xs, P x)
    (hh : ∀ (i : Nat) (h : i < xs.length), C xs[i] → (∀ (j : Nat) (hj : j < i), ¬ C (xs[j]'(by omega))) → Qh (i : Int)) (he : (∀ x ∈ xs, ¬ C x) → Qe) : scanS xs P C Qh Qe := by
  intro L hL
  simp only [maxLen] at hlen
  refine loopN hL xs.length (by omega) (fun i => ∀ (j : Nat) (hj : j < i) (h : j < xs.length), ¬ C xs[j]) (fun i hi hI hn => ?_) (fun j hj => by omega)
  refine ⟨fun hlt => ?_, fun hge => ?_⟩
  · have hlt : i < xs.length := by omega
    rw [rx_get xs hlt]
    refine ⟨by omega, by omega, hP _ (List.getElem_mem hlt), fun hc => hh i hlt hc fun j hj => hI j hj (by omega), fun hc => hn hlt fun j hj h => ?_⟩
    by_cases e : j = i
    · subst e; exact hc
    · exact hI j (by omega) h
  · refine he fun x hx => ?_
    obtain ⟨j, hj, rfl⟩ := List.mem_iff_getElem.1 hx
    exact hI j (by omega) hj
theorem md_len' {α : Type} [Cz α] {xs : List α} (h : md xs) : xs.length ≤ 1048576 := by
  have := cz_len xs
  unfold md at h
  omega

theorem idxS_ok {α : Type} [Dft α] {xs : List α} {P : α → Prop} {F : α → Bool} (hlen : xs.length ≤ maxLen) (hP : ∀ x ∈ xs, P x) :
    scanS xs P (fun x => F x = true) (fun i => i = idxI F xs) (-1 = idxI F xs) :=
  scanS_ok hlen hP (fun i h hc hb => (idxI_at h hc fun j hj => by have := hb j hj; simpa using this).symm)
    (fun h => (idxI_none fun j hj => by have := h _ (List.getElem_mem hj); simpa using this).symm)
end Go.Ev
end

section
/- A law's end: from the contract of the law's function to its calls. -/
set_option linter.unusedVariables false
namespace Go.Ev
open Go.RowKit Go.WideShapes
def boolCt (f : FuncId) (ps : List PT) (pre : pts ps → Prop) : Ct := { f, ps, rs := [(false, [.bool])], shared := false, pre, F := fun _ => (true : Bool) }
theorem bool_end {P : Program} {f : FuncId} {ps : List PT} {pre : pts ps → Prop} {W : World} {vals : Array Value} {x : pts ps} (h : CtAt P (boolCt f ps pre) W) (hargs : argsR (now W) W ps x vals.toList) (hpre : pre x) :
    Calls P f vals W fun e w' => e = .returned (.bool true) ∧ Below W.heap.size W w' := by
  obtain ⟨_, hc⟩ := h vals x (now W) (fun b hb => hb) hargs hpre
  refine hc.mono fun e w' ⟨vs, v, col, he, hb, hv, _, hr⟩ => ?_
  simp only [boolCt, resR] at hr
  obtain ⟨u, vs', cs, rfl, ho, hs, rfl⟩ := hr
  simp only [outR, repL] at ho
  obtain ⟨u2, cs', rfl, hb2, rfl⟩ := ho
  have hs := hs.resolve_left fun h => by simp [anyRes] at h
  simp only [slotV, Bool.false_eq_true, if_false] at hs
  have e1 : u2 = u := by simpa using hs
  subst e1
  have hu : u2 = .bool true := hb2
  subst hu
  refine ⟨?_, hb⟩
  rw [he]
  rcases hv with hv | ⟨hv, _⟩
  · have : v = .bool true := by simpa using hv.symm
    rw [this]
  · simp at hv
theorem args_nil {S : Nat → Prop} {W : World} : argsR S W [] () [] := rfl
theorem args_cons {S : Nat → Prop} {W : World} {p : PT} {ps : List PT} {x : p.den} {xs : pts ps} {v : Value} {vs : List Value} (h1 : argR S W p x v) (h2 : argsR S W ps xs vs) : argsR S W (p :: ps) (pmk x xs) (v :: vs) := by
  simp only [argsR]
  exact ⟨v, vs, rfl, by rw [phd_pmk]; exact h1, by rw [ptl_pmk]; exact h2⟩
theorem arg_agg {S : Nat → Prop} {W : World} {ts : List L} {x : dens ts} {cs : Array Value} (h : repLs (roRow W S) ts [] 0 0 x cs.toList) : argR S W (.v true .ro ts) x (.agg cs) := ⟨cs.toList, h, by simp [slotV]⟩
theorem by_like {A B : Prop} (hA : A) (h : A = B) : B := h ▸ hA
end Go.Ev
end

section
/- Laws of the plain library: worlds. -/
set_option linter.unusedVariables false
namespace Go.Ev
theorem szF_md {α : Type} [Cz α] {x : α} {k : Int} (h : ¬ szF x k < 0) (h0 : 0 ≤ k) (h1 : k ≤ 1048576) : md x := by
  unfold szF leftI at h
  unfold md
  split at h
  · omega
  · omega
end Go.Ev
end

section
/- Laws of the plain library: numerals. -/
set_option linter.unusedVariables false
namespace Go.Ev
def decLeft (n : Int) : List UInt8 := if n = 0 then [] else Lib.decDigits n.natAbs
theorem td10 (n : Int) : (0 ≤ n ∧ n.tdiv 10 = n / 10 ∧ n.tmod 10 = n % 10) ∨ (n < 0 ∧ n.tdiv 10 = -((-n) / 10) ∧ n.tmod 10 = -((-n) % 10)) := by
  rcases Int.le_total 0 n with h | h
  · exact Or.inl ⟨h, Int.tdiv_eq_ediv_of_nonneg h, Int.tmod_eq_emod_of_nonneg h⟩
  · by_cases h0 : n = 0
    · subst h0; exact Or.inl ⟨by omega, rfl, rfl⟩
    · refine Or.inr ⟨by omega, ?_, ?_⟩
      · rw [← Int.tdiv_eq_ediv_of_nonneg (by omega), Int.neg_tdiv, Int.neg_neg]
      · rw [← Int.tmod_eq_emod_of_nonneg (by omega), Int.neg_tmod, Int.neg_neg]
theorem decLeft_step {n : Int} (h : n ≠ 0) : decLeft n = decLeft (n.tdiv 10) ++ [UInt8.ofNat (48 + n.natAbs % 10)] := by
  have e : (n.tdiv 10).natAbs = n.natAbs / 10 := by rw [Int.natAbs_tdiv]; rfl
  have ht := td10 n
  unfold decLeft
  rw [if_neg h]
  by_cases h1 : n.natAbs < 10
  · have : n.tdiv 10 = 0 := by omega
    rw [if_pos this, Lib.decDigits_one h1, Nat.mod_eq_of_lt h1]; rfl
  · have : n.tdiv 10 ≠ 0 := by omega
    rw [if_neg this, e, Lib.decDigits, dif_neg h1]
theorem digit_pos {n : Int} (h0 : in64 n) (h : ¬ n.tmod 10 < 0) : strOf [IntKind.u8.wrap (IntKind.i64.wrap (48 + n.tmod 10))] = ob [UInt8.ofNat (48 + n.natAbs % 10)] := by
  obtain ⟨ha, hb⟩ := h0
  have ht := td10 n
  have e2 : IntKind.i64.wrap (48 + n.tmod 10) = ((48 + n.natAbs % 10 : Nat) : Int) := by rw [wrap64 (by omega) (by omega)]; omega
  have hlt : n.natAbs % 10 < 10 := Nat.mod_lt _ (by decide)
  rw [e2]
  generalize n.natAbs % 10 = k at hlt
  have : ∀ k : Fin 10, strOf [IntKind.u8.wrap ((48 + k.val : Nat) : Int)] = ob [UInt8.ofNat (48 + k.val)] := by decide +kernel
  exact this ⟨k, hlt⟩
end Go.Ev
end

section
/- Library functions: from a call's law to a contract of the small machine. -/
set_option linter.unusedVariables false
namespace Go.Ev
open Go.RowKit
def FnIs (P : Program) (f : FuncId) : Prop := ∃ fn, P.funcs[f]? = some fn ∧ (fn.name == "runtime.NumGoroutine") = false ∧ fn.body.isNone = false
theorem args_v {S : Nat → Prop} {W : World} {t : L} {ps : List PT} {x : pts (.v false .ro [t] :: ps)} {vs : List Value} (h : argsR S W (.v false .ro [t] :: ps) x vs) :
    ∃ v vs', vs = v :: vs' ∧ repL (roRow W S) t [(0, 0)] (hd (phd x)) v ∧ argsR S W ps (ptl x) vs' := by
  simp only [argsR, argR] at h
  obtain ⟨v, vs', rfl, ⟨cs, hc, hs⟩, h2⟩ := h
  obtain ⟨u, cs', rfl, hu, hn⟩ := repLs_cons.1 hc
  simp only [repLs] at hn
  subst hn
  simp only [slotV, Bool.false_eq_true, if_false] at hs
  obtain rfl : u = v := by simpa using hs
  exact ⟨u, vs', rfl, hu, h2⟩
theorem args_e {S : Nat → Prop} {W : World} {x : pts []} {vs : List Value} (h : argsR S W [] x vs) : vs = [] := h
theorem arr_of {vals : Array Value} {l : List Value} (h : vals.toList = l) : vals = l.toArray := by rw [← h]
theorem ct_lib {P : Program} {c : Ct} {w : World} (hf : FnIs P c.f)
    (h : ∀ (vals : Array Value) (x : pts c.ps) (S : Nat → Prop), (∀ b, S b → b < w.heap.size) → argsR S w c.ps x vals.toList → c.pre x →
      Calls P c.f vals w fun e w' => ∃ vs v, e = .returned v ∧ Below w.heap.size w w' ∧ retV vs v ∧ ∀ S', resR S' (fun _ => none) w' c.shared c.deep c.rs (c.F x) 0 vs) : CtAt P c w :=
  fun vals x S hS ha hp => ⟨hf, (h vals x S hS ha hp).mono fun e w' ⟨vs, v, he, hb, hv, hr⟩ => ⟨vs, v, fun _ => none, he, hb, hv, fun b hb => absurd rfl hb, hr _⟩⟩
theorem res_str {S : Nat → Prop} {col : Nat → Option Col} {W : World} (x : ByteArray) : resR S col W false false [(false, [.str])] (x : caps [[L.str]]) 0 [.string x] := by
  simp only [resR]
  exact ⟨_, _, [.string x], rfl, by simp only [outR]; exact ⟨_, _, rfl, rfl, rfl⟩, .inr rfl, rfl⟩
end Go.Ev
end

section
/- Laws of the plain library: the law of TagOf. -/
set_option linter.unusedVariables false
namespace Go.Ev
end Go.Ev
end

section
/- Laws of the plain library: the laws' functions of the doors. -/
set_option linter.unusedVariables false
namespace Go.Ev
theorem szF_le {α : Type} [Cz α] (x : α) {k : Int} (h0 : 0 ≤ k) : szF x k ≤ k := by
  unfold szF leftI
  split <;> omega
theorem pSz_next {α β : Type} [Cz α] [Cz β] [Wd β] {x : α} {y : β} {k : Int} (h : ¬ szF x k < 0) (h0 : 0 ≤ k) (h1 : k ≤ 1048576) (hy : wd y) : pSz y (szF x k) :=
  ⟨hy, by omega, by have := szF_le x h0; simp only [capI]; omega⟩
theorem md_rsp {r : Rsp} (h : md r) : md r.2.1 := by
  unfold md at h ⊢; simp only [cz_pair] at h; omega
end Go.Ev
end

section
/- Laws of the plain library: more of the laws' functions. -/
set_option linter.unusedVariables false
namespace Go.Ev
end Go.Ev
end

section
/- Laws of the plain library, third part: texts out of texts. -/
set_option linter.unusedVariables false
namespace Go.Ev

theorem joinL_snoc (sep : S) : ∀ (vs : List S) (v : S), joinL sep (vs ++ [v]) = if vs = [] then v else joinL sep vs ++ sep ++ v
  | [], v => rfl
  | [x], v => rfl
  | x :: y :: r, v => by
    have ih := joinL_snoc sep (y :: r) v
    simp only [List.cons_append, joinL, reduceCtorEq, if_false] at ih ⊢
    rw [ih]
    apply bs_inj
    simp only [bs_append, List.append_assoc]
theorem joinL_size (sep : S) : ∀ (vs : List S), (joinL sep vs).size ≤ sumN (vs.map fun x => x.size) + vs.length * sep.size
  | [] => by show (lit []).size ≤ _; exact Nat.zero_le _
  | [x] => by simp only [joinL, List.map_cons, List.map_nil, sumN, List.length_singleton]; omega
  | x :: y :: r => by
    have ih := joinL_size sep (y :: r)
    simp only [joinL, size_append, List.map_cons, sumN, List.length_cons] at ih ⊢
    rw [Nat.succ_mul]
    omega
theorem sumN_append : ∀ (a b : List Nat), sumN (a ++ b) = sumN a + sumN b
  | [], b => by simp [sumN]
  | x :: a, b => by simp only [List.cons_append, sumN, sumN_append a b]; omega
theorem valuesOf_bound (n : S) : ∀ (l : List Fld), sumN ((valuesOf l n).map fun x => x.size) + (valuesOf l n).length ≤ cz l
  | [] => by simp [valuesOf, sumN]
  | f :: l => by
    have ih := valuesOf_bound n l
    simp only [valuesOf, cz_list, List.filter_cons, List.length_cons, List.map_cons, sumN, cz_pair, cz_str] at ih ⊢
    split
    · simp only [List.map_cons, sumN, List.length_cons]; omega
    · omega
theorem valuesOf_take (l : List Fld) (n : S) {i : Nat} (h : i < l.length) : valuesOf (l.take (i + 1)) n = if l[i].1 = n then valuesOf (l.take i) n ++ [l[i].2] else valuesOf (l.take i) n := by
  rw [take_succ_app h]
  unfold valuesOf
  rw [List.filter_append, List.map_append]
  by_cases e : l[i].1 = n
  · simp [e]
  · simp [e]
theorem cz_take {α : Type} [Cz α] (l : List α) (i : Nat) : cz (l.take i) ≤ cz l := by
  have h : sumN (l.map cz) = sumN ((l.take i).map cz) + sumN ((l.drop i).map cz) := by
    rw [← sumN_append, ← List.map_append, List.take_append_drop]
  simp only [cz_list, List.length_take]
  omega
theorem sep_size : (lit [44, 32]).size = 2 := rfl
theorem spec_FieldGet_ok (a0 : List Fld) (a1 : S) (h : pFieldGet a0 a1) : s_spec_FieldGet a0 a1 (fun r => r = mFieldGet a0 a1) := by
  intro L hL
  have hlen := md_len' h
  have hb : ∀ i, (joinL (lit [44, 32]) (valuesOf (a0.take i) a1)).size ≤ 3 * 1048576 := fun i => by
    have h1 := joinL_size (lit [44, 32]) (valuesOf (a0.take i) a1)
    have h2 := valuesOf_bound a1 (a0.take i)
    have h3 := cz_take a0 i
    have h4 : cz a0 ≤ 1048576 := h
    rw [sep_size] at h1
    omega
  refine loopG hL a0.length (fun i y => y.2.2 = (i : Int) ∧ y.1 = joinL (lit [44, 32]) (valuesOf (a0.take i) a1) ∧ y.2.1 = decide (valuesOf (a0.take i) a1 ≠ [])) (fun i y hi hI hn => ?_) (s0 := (lit [], false, 0)) ⟨rfl, rfl, rfl⟩
  obtain ⟨y1, y2, y3⟩ := y
  simp only at hI ⊢
  obtain ⟨rfl, rfl, rfl⟩ := hI
  refine ⟨fun hlt => ?_, fun hge => ?_⟩
  · have hi2 : i < a0.length := by omega
    have hv := valuesOf_take a0 a1 hi2
    have hval : cz a0[i] ≤ 1048576 := md_mem h (List.getElem_mem hi2)
    simp only [cz_pair, cz_str] at hval
    have hbi := hb i
    rw [rx_get a0 hi2, wrapS (by omega)]
    refine ⟨by omega, by omega, fun hne => hn _ hi2 ⟨rfl, ?_, ?_⟩, fun heq => ?_⟩
    · rw [hv, if_neg hne]
    · rw [hv, if_neg hne]
    · have heq : a0[i].1 = a1 := Classical.not_not.1 heq
      rw [if_pos heq] at hv
      refine ⟨fun hs => ?_, fun hs => ?_⟩
      · have hs := of_decide_eq_true hs
        refine ⟨by rw [sep_size]; omega, by omega, by omega, by rw [size_append, sep_size]; omega, hn _ hi2 ⟨rfl, ?_, ?_⟩⟩
        · rw [hv, joinL_snoc, if_neg hs]
        · rw [hv]; simp
      · have hs : valuesOf (a0.take i) a1 = [] := by simpa using hs
        refine ⟨by omega, by omega, by omega, hn _ hi2 ⟨rfl, ?_, ?_⟩⟩
        · rw [hv, hs, joinL_snoc, if_pos rfl]
          apply bs_inj; rw [bs_append]; rfl
        · rw [hv]; simp
  · have e : a0.take i = a0 := List.take_of_length_le (by omega)
    rw [e]
    unfold mFieldGet mJoin
    congr 1
    rw [decide_eq_decide]
    rw [List.length_pos_iff]
theorem pJoin_values (a0 : List Fld) (a1 : S) (h : pFieldGet a0 a1) : pJoin (valuesOf a0 a1) (lit [44, 32]) := by
  have h2 := valuesOf_bound a1 a0
  have h4 : cz a0 ≤ 1048576 := h
  exact ⟨by omega, by omega, by rw [sep_size]; omega⟩
theorem impl_FieldGet_ok (a0 : List Fld) (a1 : S) (h : pFieldGet a0 a1) : s_impl_FieldGet a0 a1 (fun r => r = mFieldGet a0 a1) := by
  intro L hL
  have hlen := md_len' h
  refine loopG hL a0.length (fun i y => y.2 = (i : Int) ∧ y.1 = valuesOf (a0.take i) a1) (fun i y hi hI hn => ?_) (s0 := ([], 0)) ⟨rfl, rfl⟩
  obtain ⟨y1, y2⟩ := y
  simp only at hI ⊢
  obtain ⟨rfl, rfl⟩ := hI
  refine ⟨fun hlt => ?_, fun hge => ?_⟩
  · have hi2 : i < a0.length := by omega
    have hv := valuesOf_take a0 a1 hi2
    have h2 := valuesOf_bound a1 (a0.take i)
    have h3 := cz_take a0 i
    have h4 : cz a0 ≤ 1048576 := h
    rw [rx_get a0 hi2, wrapS (by omega)]
    refine ⟨by omega, by omega, fun he => ⟨by simp only [List.length_singleton]; omega, hn _ hi2 ⟨rfl, by rw [hv, if_pos he]⟩⟩, fun hne => hn _ hi2 ⟨rfl, by rw [hv, if_neg hne]⟩⟩
  · have e : a0.take i = a0 := List.take_of_length_le (by omega)
    rw [e]
    refine ⟨pJoin_values a0 a1 h, ?_⟩
    unfold mFieldGet
    congr 1
    rw [decide_eq_decide]
    omega
theorem fieldGet_size (a0 : List Fld) (a1 : S) (h : pFieldGet a0 a1) : (mFieldGet a0 a1).1.size ≤ 3 * 1048576 := by
  have h1 := joinL_size (lit [44, 32]) (valuesOf a0 a1)
  have h2 := valuesOf_bound a1 a0
  have h4 : cz a0 ≤ 1048576 := h
  rw [sep_size] at h1
  unfold mFieldGet mJoin
  simp only
  omega

end Go.Ev
end

section
/- Laws of the plain library, fourth part: parts of texts. -/
set_option linter.unusedVariables false
namespace Go.Ev

end Go.Ev
end

section
/- Laws of the plain library: the laws' marks. -/
set_option linter.unusedVariables false
namespace Go.Ev
theorem laws_markText_ok (a0 : Int) (h : pMarkText a0) : s_laws_markText a0 (fun r => r = mMarkText a0) := by
  obtain ⟨ha, hb⟩ := h
  have hlen := Lib.itoa_length_le a0 ha hb
  refine ⟨fun h0 => by unfold mMarkText; rw [if_pos h0], fun h0 => fun L hL => ?_⟩
  refine loopI hL (fun y => in64 y.1 ∧ 0 ≤ y.1 ∧ decLeft y.1 ++ bs y.2 = Lib.decDigits a0.natAbs) (fun y => y.1.natAbs) (fun y hI ih => ?_) (a0, lit []) ⟨⟨ha, hb⟩, by simp only; omega, by unfold decLeft; rw [if_neg (by simp only; omega), bs_lit]; simp⟩
  obtain ⟨n, s⟩ := y
  obtain ⟨h64, hp, he⟩ := hI
  simp only at h64 hp he ⊢
  have hl : (Lib.decDigits a0.natAbs).length ≤ 21 := by
    unfold Lib.itoa at hlen
    rw [if_neg (by omega), show a0.toNat = a0.natAbs by omega] at hlen
    exact hlen
  have hs : s.size ≤ 21 := by rw [← bs_len]; rw [← he, List.length_append] at hl; omega
  have ht := td10 n
  have d64 : in64 (n.tdiv 10) := by obtain ⟨a, b⟩ := h64; constructor <;> omega
  have wd : IntKind.i64.wrap (n.tdiv 10) = n.tdiv 10 := wrap64 (by have := d64.1; omega) (by have := d64.2; omega)
  have h1 : (ob [UInt8.ofNat (48 + n.natAbs % 10)]).size = 1 := ob_size _
  have h2 : (lit [109]).size = 1 := rfl
  rw [wd]
  refine ⟨fun hne => ?_, fun hle => ?_⟩
  · rw [digit_pos h64 (by omega), h1]
    refine ⟨by decide, by omega, by decide, ih _ ⟨d64, by simp only; omega, ?_⟩ (by simp only; omega)⟩
    simp only
    rw [bs_append, bs_ob, ← List.append_assoc, ← decLeft_step (by omega), he]
  · have h00 : n = 0 := by omega
    subst h00
    rw [h2]
    refine ⟨by omega, ?_⟩
    unfold mMarkText mDec mItoa
    rw [if_neg h0]
    congr 1
    apply bs_inj
    rw [bs_ob]
    unfold Lib.itoa
    rw [if_neg (by omega), show a0.toNat = a0.natAbs by omega, ← he]
    unfold decLeft
    simp
theorem take_set_succ {α : Type} {xs ys : List α} {i : Nat} {f : α} (hx : i < xs.length) (hy : i < ys.length) (h : xs.take i = ys.take i) (hf : ys[i] = f) : (xs.set i f).take (i + 1) = ys.take (i + 1) := by
  rw [List.take_add_one, List.take_add_one, List.getElem?_set_self hx, List.getElem?_eq_getElem hy, hf, ← h]
  congr 1
  apply List.ext_getElem?
  intro j
  rw [List.getElem?_take, List.getElem?_take]
  split
  · rw [List.getElem?_set_ne (by omega)]
  · rfl
theorem laws_markFieldS_ok (a0 : List Fld) (a1 : Int) (h : pMarkFieldS a0 a1) : s_laws_markFieldS a0 a1 (fun r y => r = mMarkFieldS a0 a1 ∧ y = wMarkFieldS a0 a1) := by
  obtain ⟨k0, k1, hn⟩ := h
  intro L hL
  refine loopI hL (fun y => ∃ i : Nat, i ≤ a0.length ∧ y.2.1 = (i : Int) ∧ y.1 = a1 + 2 * i ∧ y.2.2.length = a0.length ∧ y.2.2.take i = (markFld a0 a1).take i) (fun y => a0.length + 1 - y.2.1.toNat) (fun y hI ih => ?_) (a1, 0, a0) ⟨0, by omega, rfl, by simp, rfl, by simp⟩
  obtain ⟨k, i', xs⟩ := y
  obtain ⟨i, hi, hy, hk, hl, ht⟩ := hI
  simp only at hy hk hl ht ⊢
  subst hy hk
  have hm := markFld_length a0 a1
  have w1 : IntKind.i64.wrap (a1 + 2 * (i : Int) + 1) = a1 + 2 * i + 1 := wrap64 (by omega) (by omega)
  have w2 : IntKind.i64.wrap (a1 + 2 * (i : Int) + 1 + 1) = a1 + 2 * ((i + 1 : Nat) : Int) := by rw [wrap64 (by omega) (by omega)]; omega
  have w3 : IntKind.i64.wrap ((i : Int) + 1) = ((i + 1 : Nat) : Int) := wrapS (by omega)
  rw [w1, w2, w3]
  refine ⟨fun hlt => ?_, fun hge => ?_⟩
  · have hlt' : i < xs.length := by omega
    refine ⟨⟨by omega, by omega⟩, by omega, hlt, ⟨by omega, by omega⟩, by omega, by rw [List.length_set]; exact hlt, ?_⟩
    refine ih _ ⟨i + 1, by omega, rfl, rfl, by simp [hl], ?_⟩ (by simp only [Int.toNat_natCast]; omega)
    simp only [Int.toNat_natCast]
    have e1 : (rx (xs.set i (mMarkText (a1 + 2 * (i : Int)), (rx xs (i : Int)).2)) (i : Int)).1 = mMarkText (a1 + 2 * (i : Int)) := by
      rw [rx_get _ (by rw [List.length_set]; exact hlt'), List.getElem_set_self]
    rw [e1, List.set_set]
    exact take_set_succ hlt' (by omega) ht (markFld_get a0 a1 i (by omega))
  · have hie : i = a0.length := by omega
    subst hie
    refine ⟨rfl, ?_⟩
    unfold wMarkFieldS
    rw [List.take_of_length_le (by omega), List.take_of_length_le (by omega)] at ht
    rw [ht]
theorem laws_heldFieldS_ok (a0 : List Fld) (a1 : Int) (h : pHeldFieldS a0 a1) : s_laws_heldFieldS a0 a1 (fun r => r = mHeldFieldS a0 a1) := by
  obtain ⟨k0, k1, hn⟩ := h
  intro L hL
  refine loopI hL (fun y => ∃ i : Nat, i ≤ a0.length ∧ y.2 = (i : Int) ∧ y.1 = a1 + 2 * i ∧ heldFld (a0.drop i) y.1 = heldFld a0 a1) (fun y => a0.length + 1 - y.2.toNat) (fun y hI ih => ?_) (a1, 0) ⟨0, by omega, rfl, by simp, by simp⟩
  obtain ⟨k, i'⟩ := y
  obtain ⟨i, hi, hy, hk, he⟩ := hI
  simp only at hy hk he ⊢
  subst hy hk
  have w1 : IntKind.i64.wrap (a1 + 2 * (i : Int) + 1) = a1 + 2 * i + 1 := wrap64 (by omega) (by omega)
  have w2 : IntKind.i64.wrap (a1 + 2 * (i : Int) + 1 + 1) = a1 + 2 * ((i + 1 : Nat) : Int) := by rw [wrap64 (by omega) (by omega)]; omega
  have w3 : IntKind.i64.wrap ((i : Int) + 1) = ((i + 1 : Nat) : Int) := wrapS (by omega)
  rw [w1, w2, w3]
  refine ⟨fun hlt => ?_, fun hge => ?_⟩
  · have hlt' : i < a0.length := by omega
    rw [List.drop_eq_getElem_cons hlt'] at he
    rw [rx_get _ hlt']
    rw [heldFld] at he
    refine ⟨by omega, hlt, ⟨by omega, by omega⟩, fun hne => ?_, fun hne => ⟨by omega, hlt, ⟨by omega, by omega⟩, fun hne2 => ?_, fun hne2 => ?_⟩⟩
    · rw [if_pos hne] at he; exact he
    · rw [if_neg hne, if_pos hne2] at he; exact he
    · rw [if_neg hne, if_neg hne2] at he
      refine ih _ ⟨i + 1, by omega, rfl, rfl, ?_⟩ (by simp only [Int.toNat_natCast]; omega)
      simp only
      rw [← he]
      congr 1
      omega
  · have hie : i = a0.length := by omega
    subst hie
    rw [List.drop_of_length_le (Nat.le_refl _)] at he
    exact he
theorem laws_markResponse_ok (a0 : Rsp) (a1 : Int) (h : pMarkResponse a0 a1) : s_laws_markResponse a0 a1 (fun r y => r = mMarkResponse a0 a1 ∧ y = wMarkResponse a0 a1) := ⟨h, rfl, rfl⟩

end Go.Ev
end

section
/- Library functions: strings.Join, strings.Trim, strings.Cut, strings.IndexByte: contracts of the small machine. -/
set_option linter.unusedVariables false
namespace Go.Ev
open Go.RowKit
theorem joinL_tail (sep : S) : ∀ (x : S) (r : List S), bs (joinL sep (x :: r)) = bs x ++ Lib.joinTail (bs sep) (r.map bs)
  | x, [] => by simp [joinL, Lib.joinTail]
  | x, y :: r => by
    rw [joinL, bs_append, bs_append, joinL_tail sep y r]
    simp only [Lib.joinTail, List.map_cons, List.flatten_cons, List.append_assoc]
theorem mJoin_lib (xs : List S) (sep : S) : mJoin xs sep = ob (Lib.join (xs.map bs) (bs sep)) := by
  cases xs with
  | nil => rfl
  | cons x r =>
    refine bs_inj ?_
    rw [bs_ob, mJoin, joinL_tail, List.map_cons, Lib.join_cons]
theorem lens_sum : ∀ xs : List S, Lib.lens (xs.map bs) = sumN (xs.map fun x => x.size)
  | [] => rfl
  | x :: r => by
    have := lens_sum r
    unfold Lib.lens at this ⊢
    simp only [List.map_cons, List.sum_cons, sumN, bs_len] at this ⊢
    omega
theorem join_core {P : Program} {f : FuncId} {w : World} {S : Nat → Prop} (hS : ∀ b, S b → b < w.heap.size)
    (h0 : ∀ (a : Option Addr) (c : Nat) (sep : ByteArray), Calls P f #[.slice a 0 c, .string sep] w fun e w' => e = .returned (.string ⟨#[]⟩) ∧ w' = w)
    (hI : ∀ (bk o c : Nat) (xs : List ByteArray) (sep : ByteArray), (∀ (j : Nat) x, xs[j]? = some x → w.cell? ⟨bk, o + j, none⟩ = some (.string x)) → bk < w.heap.size → xs.length ≤ 140737488355328 → xs.length ≤ c → (Lib.join (xs.map (·.data.toList)) sep.data.toList).length ≤ 140737488355328 →
      Calls P f #[.slice (some ⟨bk, o, none⟩) xs.length c, .string sep] w fun e w' => e = .returned (.string ⟨(Lib.join (xs.map (·.data.toList)) sep.data.toList).toArray⟩) ∧ Below w.heap.size w w')
    (xs : List ByteArray) (sep : ByteArray) (hp : pJoin xs sep) (A : Option Addr) (cap : Nat) (cs : List Value) (hcap : xs.length ≤ cap) (hcl : cs.length = xs.length * 1)
    (hA : 0 < xs.length * 1 → ∃ ad, A = some ad ∧ S ad.block ∧ ∀ (j : Nat) (u : Value), cs[j]? = some u → w.cell? (ad.add j) = some u)
    (hx : ∀ (i : Nat) (y : ByteArray), xs[i]? = some y → (cs.drop (i * 1)).take 1 = [.string y]) :
    Calls P f #[.slice A xs.length cap, .string sep] w fun e w' => e = .returned (.string (mJoin xs sep)) ∧ Below w.heap.size w w' := by
  obtain ⟨hp1, hp2, hp3⟩ := hp
  by_cases hn : xs.length = 0
  · have : xs = [] := List.length_eq_zero_iff.1 hn
    subst this
    refine (h0 A cap sep).mono fun e w' ⟨he, hw⟩ => ⟨he, ?_⟩
    rw [hw]; exact Below.refl _ _
  · obtain ⟨ad, rfl, hb, hcells⟩ := hA (by omega)
    have hget : ∀ (j : Nat) (y : ByteArray), xs[j]? = some y → w.cell? (ad.add j) = some (.string y) := fun j y hj => by
      refine hcells j _ ?_
      have := congrArg (·[0]?) (hx j y hj)
      simpa [List.getElem?_take, List.getElem?_drop] using this
    have hx0 : xs[0]? = some (xs[0]'(by omega)) := List.getElem?_eq_getElem (by omega)
    have hsp := World.cell?_spot (hget 0 _ hx0)
    have hadd : ∀ j, ad.add j = ⟨ad.block, ad.off + j, none⟩ := fun j => by
      have : ad.spot = none := by
        rw [addr_zero] at hsp; exact hsp
      obtain ⟨b, o, s⟩ := ad
      simp only at this
      subst this
      unfold Addr.add
      split
      · rename_i h; subst h; rfl
      · rfl
    have had : ad = ⟨ad.block, ad.off, none⟩ := by have := hadd 0; rw [addr_zero] at this; exact this
    have hjl : (Lib.join (xs.map (·.data.toList)) sep.data.toList).length ≤ 140737488355328 := by
      cases xs with
      | nil => simp at hn
      | cons y r =>
        have h6 := Lib.join_length (bs y) (r.map bs) (bs sep)
        have h7 := lens_sum (y :: r)
        have h8 : (bs sep).length ≤ 16 := by rw [bs_len]; exact hp3
        have h9 : (bs sep).length * (r.map bs).length ≤ 16 * r.length := by rw [List.length_map]; exact Nat.mul_le_mul_right _ h8
        have h10 : (Lib.join ((y :: r).map bs) (bs sep)).length ≤ 140737488355328 := by
          rw [List.map_cons, h6]
          rw [List.map_cons] at h7
          simp only [List.length_cons] at hp1
          omega
        exact h10
    rw [had]
    refine (hI ad.block ad.off cap xs sep (fun j y hj => by rw [← hadd j]; exact hget j y hj) (hS _ hb) (by omega) hcap hjl).mono fun e w' ⟨he, hbel⟩ => ⟨?_, hbel⟩
    rw [he, mJoin_lib]; rfl
def joinCt (e : TypeId) (f : FuncId) : Ct := { f, ps := [.v false .ro [.list e [.str]], .v false .ro [.str]], rs := [(false, [.str])], shared := false, pre := fun (x : List S × S) => pJoin x.1 x.2, F := fun (x : List S × S) => mJoin x.1 x.2 }
theorem join_row {w : World} {S : Nat → Prop} {e : TypeId} {p : Col} {xs : List ByteArray} {v : Value} (h : repL (roRow w S) (.list e [.str]) p (xs : List (dens [L.str])) v) :
    ∃ (A : Option Addr) (cap : Nat) (cs : List Value), v = .slice A xs.length cap ∧ xs.length ≤ cap ∧ cs.length = xs.length * 1 ∧ (0 < xs.length * 1 → ∃ ad, A = some ad ∧ S ad.block ∧ ∀ (j : Nat) (u : Value), cs[j]? = some u → w.cell? (ad.add j) = some u) ∧
      ∀ (i : Nat) (y : ByteArray), xs[i]? = some y → (cs.drop (i * 1)).take 1 = [.string y] := by
  simp only [repL] at h
  obtain ⟨cs, ⟨A, cap, hv, hcap, hA⟩, hcl, hx⟩ := h
  refine ⟨A, cap, cs, hv, hcap, hcl, hA, fun i y hi => ?_⟩
  have h5 := hx i y hi
  simp only [repLs, repL] at h5
  obtain ⟨v, hv, rfl⟩ := h5
  exact hv
theorem join_ct {P : Program} {e : TypeId} {f : FuncId} {w : World} (hf : FnIs P f)
    (h0 : ∀ (a : Option Addr) (c : Nat) (sep : ByteArray), Calls P f #[.slice a 0 c, .string sep] w fun e w' => e = .returned (.string ⟨#[]⟩) ∧ w' = w)
    (hI : ∀ (bk o c : Nat) (xs : List ByteArray) (sep : ByteArray), (∀ (j : Nat) x, xs[j]? = some x → w.cell? ⟨bk, o + j, none⟩ = some (.string x)) → bk < w.heap.size → xs.length ≤ 140737488355328 → xs.length ≤ c → (Lib.join (xs.map (·.data.toList)) sep.data.toList).length ≤ 140737488355328 →
      Calls P f #[.slice (some ⟨bk, o, none⟩) xs.length c, .string sep] w fun e w' => e = .returned (.string ⟨(Lib.join (xs.map (·.data.toList)) sep.data.toList).toArray⟩) ∧ Below w.heap.size w w') : CtAt P (joinCt e f) w := by
  refine ct_lib hf fun vals x S hS ha hp => ?_
  obtain ⟨v, vs', hv, h1, h2⟩ := args_v ha
  obtain ⟨u, us', rfl, h3, h4⟩ := args_v h2
  have h4 := args_e h4
  subst h4
  have h3 : u = .string x.2 := h3
  subst h3
  obtain ⟨A, cap, cs, rfl, hcap, hcl, hA, hx⟩ := join_row (xs := x.1) h1
  rw [arr_of hv]
  exact (join_core hS h0 hI x.1 x.2 hp A cap cs hcap hcl hA hx).mono fun e w' ⟨he, hb⟩ => ⟨[.string (mJoin x.1 x.2)], _, he, hb, Or.inl rfl, fun S' => res_str _⟩
end Go.Ev
end

section
/- Library functions: strconv.Atoi, strings.TrimLeft, strings.Split: contracts of the small machine; what their variables hold. -/
set_option linter.unusedVariables false
namespace Go.Ev
open Go.RowKit
end Go.Ev
end

section
/- The plain library: what the functions of dates compute. -/
set_option linter.unusedVariables false
namespace Go.Ev
end Go.Ev
end

section
/- What the functions of dates come to: printed by a program of this session's own (EwShow) out of the small machine. -/
set_option linter.unusedVariables false
namespace Go.Ev

end Go.Ev
end

section
/- Laws of the plain library: the calendar. -/
set_option linter.unusedVariables false
namespace Go.Ev
end Go.Ev
end

section
/- Laws of the plain library: days, texts of dates. -/
set_option linter.unusedVariables false
namespace Go.Ev
end Go.Ev
end

section
/- Laws of the plain library: texts of moments. -/
set_option linter.unusedVariables false
namespace Go.Ev
end Go.Ev
end

section
/- Laws of the plain library: marks of texts in a row, FieldSet, WithAge, VaryNames. -/
set_option linter.unusedVariables false
namespace Go.Ev
theorem laws_heldResponse_ok (a0 : Rsp) (a1 : Int) (h : pHeldResponse a0 a1) : s_laws_heldResponse a0 a1 (fun r => r = mHeldResponse a0 a1) := by
  refine ⟨h, fun h1 => ?_, fun h1 => ?_⟩
  · unfold mHeldResponse; rw [if_pos h1]
  · unfold mHeldResponse; rw [if_neg h1]
theorem fset_step {l : List Fld} {n v : S} {b : Bool} {i : Nat} (hi : i < l.length) : fset (l.drop i) n v b = if l[i].1 ≠ n then l[i] :: fset (l.drop (i + 1)) n v b else if b = true then fset (l.drop (i + 1)) n v true else (n, v) :: fset (l.drop (i + 1)) n v true := by
  rw [List.drop_eq_getElem_cons hi, fset]
theorem spec_FieldSet_ok (a0 : List Fld) (a1 a2 : S) (h : pFieldSet a0 a1 a2) : s_spec_FieldSet a0 a1 a2 (fun r => r = mFieldSet a0 a1 a2) := by
  replace h : a0.length ≤ 1099511627776 := h
  intro L hL
  refine loopG hL a0.length (fun i y => y.2.2 = (i : Int) ∧ y.1.length ≤ i ∧ y.1 ++ fset (a0.drop i) a1 a2 y.2.1 = mFieldSet a0 a1 a2) (fun i y hi hI hn => ?_) (s0 := ([], false, 0)) ⟨rfl, by simp, by simp [mFieldSet]⟩
  obtain ⟨xs, b, i'⟩ := y
  obtain ⟨h1, h2, h3⟩ := hI
  simp only at h1 h2 h3 ⊢
  subst h1
  rw [wrapS (by omega)]
  refine ⟨fun hlt => ?_, fun hge => ?_⟩
  · have hi2 : i < a0.length := by omega
    rw [fset_step hi2] at h3
    rw [rx_get _ hi2]
    refine ⟨by omega, hlt, fun hne => ⟨by omega, hlt, by simp only [List.length_cons, List.length_nil]; omega, ?_⟩, fun hne => ⟨fun hb => ⟨by simp only [List.length_cons, List.length_nil]; omega, ?_⟩, fun hb => ?_⟩⟩
    · rw [if_pos hne] at h3
      exact hn _ hi2 ⟨rfl, by simp only [List.length_append, List.length_cons, List.length_nil]; omega, by rw [← h3]; simp⟩
    · rw [if_neg hne, if_neg hb] at h3
      exact hn _ hi2 ⟨rfl, by simp only [List.length_append, List.length_cons, List.length_nil]; omega, by rw [← h3]; simp⟩
    · have hb := Classical.not_not.1 hb
      rw [if_neg hne, if_pos hb] at h3
      exact hn _ hi2 ⟨rfl, by simp only; omega, by simp only; rw [hb]; exact h3⟩
  · rw [List.drop_of_length_le (by omega)] at h3
    rw [fset] at h3
    refine ⟨fun hb => ⟨by simp only [List.length_cons, List.length_nil]; omega, ?_⟩, fun hb => ?_⟩
    · rw [if_neg hb] at h3; exact h3
    · rw [if_pos (Classical.not_not.1 hb)] at h3; simpa using h3
theorem impl_FieldSet_ok (a0 : List Fld) (a1 a2 : S) (h : pFieldSet a0 a1 a2) : s_impl_FieldSet a0 a1 a2 (fun r => r = mFieldSet a0 a1 a2) := by
  replace h : a0.length ≤ 1099511627776 := h
  intro L hL
  refine loopG hL a0.length (fun i y => y.2.2 = (i : Int) ∧ y.1.length ≤ i ∧ y.1 ++ fset (a0.drop i) a1 a2 y.2.1 = mFieldSet a0 a1 a2) (fun i y hi hI hn => ?_) (s0 := ([], false, 0)) ⟨rfl, by simp, by simp [mFieldSet]⟩
  obtain ⟨xs, b, i'⟩ := y
  obtain ⟨h1, h2, h3⟩ := hI
  simp only at h1 h2 h3 ⊢
  subst h1
  rw [wrapS (by omega)]
  refine ⟨fun hlt => ?_, fun hge => ?_⟩
  · have hi2 : i < a0.length := by omega
    rw [fset_step hi2] at h3
    rw [rx_get _ hi2]
    refine ⟨by omega, hlt, fun hne => ⟨by simp only [List.length_cons, List.length_nil]; omega, ?_⟩, fun hne => ⟨fun hb => ⟨by simp only [List.length_cons, List.length_nil]; omega, ?_⟩, fun hb => ?_⟩⟩
    · rw [if_pos hne] at h3
      exact hn _ hi2 ⟨rfl, by simp only [List.length_append, List.length_cons, List.length_nil]; omega, by rw [← h3]; simp⟩
    · rw [if_neg hne, if_neg hb] at h3
      exact hn _ hi2 ⟨rfl, by simp only [List.length_append, List.length_cons, List.length_nil]; omega, by rw [← h3]; simp⟩
    · have hb := Classical.not_not.1 hb
      rw [if_neg hne, if_pos hb] at h3
      exact hn _ hi2 ⟨rfl, by simp only; omega, by simp only; rw [hb]; exact h3⟩
  · rw [List.drop_of_length_le (by omega)] at h3
    rw [fset] at h3
    refine ⟨fun hb => ⟨by simp only [List.length_cons, List.length_nil]; omega, ?_⟩, fun hb => ?_⟩
    · rw [if_neg hb] at h3; exact h3
    · rw [if_pos (Classical.not_not.1 hb)] at h3; simpa using h3

end Go.Ev
end

section
/- What functions of caches come to: printed by a program of this session's own (EwShow) out of the small machine. -/
set_option linter.unusedVariables false
namespace Go.Ev

end Go.Ev
end

section
/- Laws of the plain library: the origin. -/
set_option linter.unusedVariables false
namespace Go.Ev
end Go.Ev
end

section
/- Laws of the plain library: shards. -/
set_option linter.unusedVariables false
namespace Go.Ev
end Go.Ev
end

section
/- Laws of the plain library: caches; what is found in a shard. -/
set_option linter.unusedVariables false
namespace Go.Ev
end Go.Ev
end

section
/- Laws of the plain library: marks of what has slices in its slices; copies; ShardTouch. -/
set_option linter.unusedVariables false
set_option linter.unusedSimpArgs false
namespace Go.Ev
theorem get_of_drop {α : Type} {xs ys : List α} {i : Nat} (h : xs.drop i = ys.drop i) (hx : i < xs.length) (hy : i < ys.length) : xs[i] = ys[i] := by
  have := congrArg List.head? h
  simpa [List.head?_drop, List.getElem?_eq_getElem hx, List.getElem?_eq_getElem hy] using this
theorem slices_Clone_Field_ok (a0 : List Fld) (h : pClone_Field a0) : s_slices_Clone_Field a0 (fun r => r = mClone_Field a0) := by
  unfold pClone_Field at h
  intro b hb
  refine ⟨fun hb' => (hb hb').symm, fun _ => ⟨by simp only [List.length_nil]; omega, by simp [mClone_Field]⟩⟩
theorem rsp_len {r : Rsp} (h : md r) : r.2.1.length ≤ 1048576 := md_len' (md_rsp h)
theorem impl_cloneResponse_ok (a0 : Rsp) (h : pCloneResponse a0) : s_impl_cloneResponse a0 (fun r => r = mCloneResponse a0) := ⟨by have := rsp_len h; unfold pClone_Field; omega, rfl⟩
end Go.Ev
end

section
/- Laws of the plain library: ConnNew: marks of a connection that holds no rows. -/
set_option linter.unusedVariables false
namespace Go.Ev
end Go.Ev
end

section
/- What the program's functions come to, each by itself: printed by a program of this session's own (EwShow) out of the small machine. -/
set_option linter.unusedVariables false
namespace Go.Ev

def s_DeleteFunc_FieldDrop_1 (a0 : (List Fld)) (a1 : S) (Q : ((List Fld) → Prop)) : Prop :=
  pIndexFunc_FieldDrop_1 a0 a1 ∧
  ((mIndexFunc_FieldDrop_1 a0 a1) = (-1) →
    (Q a0)) ∧
  (¬ ((mIndexFunc_FieldDrop_1 a0 a1) = (-1)) →
    (∀ L0 : ((Int × (Int × (List Fld))) → Prop),
      ((
          (∀ y1 : (Int × (Int × (List Fld))),
            ((
                (y1.2.1 < (y1.2.2.length : Int) →
                  0 ≤ y1.2.1 ∧
                  y1.2.1 < (y1.2.2.length : Int) ∧
                  pFieldDrop_1 (rx y1.2.2 y1.2.1) a1 ∧
                  (¬ ((mFieldDrop_1 (rx y1.2.2 y1.2.1) a1) = true) →
                    0 ≤ y1.1 ∧
                    y1.1 < (y1.2.2.length : Int) ∧
                    (L0 ((IntKind.i64.wrap (y1.1 + 1)), (IntKind.i64.wrap (y1.2.1 + 1)), (y1.2.2.set y1.1.toNat (rx y1.2.2 y1.2.1))))) ∧
                  (¬ (¬ ((mFieldDrop_1 (rx y1.2.2 y1.2.1) a1) = true)) →
                    (L0 (y1.1, (IntKind.i64.wrap (y1.2.1 + 1)), y1.2.2)))) ∧
                (¬ (y1.2.1 < (y1.2.2.length : Int)) →
                  0 ≤ y1.1 ∧
                  y1.1 ≤ (y1.2.2.length : Int) ∧
                  0 ≤ y1.1 ∧
                  y1.1 ≤ ((y1.2.2.take y1.1.toNat ++ List.replicate (y1.2.2.length - y1.1.toNat) ((lit []), (lit []))).length : Int) ∧
                  (Q ((y1.2.2.take y1.1.toNat ++ List.replicate (y1.2.2.length - y1.1.toNat) ((lit []), (lit []))).take y1.1.toNat)))
              ) →
              (L0 y1)))
        ) →
        (L0 ((mIndexFunc_FieldDrop_1 a0 a1), (IntKind.i64.wrap ((mIndexFunc_FieldDrop_1 a0 a1) + 1)), a0)))))

def s_IndexFunc_FieldDrop_1 (a0 : (List Fld)) (a1 : S) (Q : (Int → Prop)) : Prop :=
  (∀ L0 : (Int → Prop),
    ((
        (∀ y1 : Int,
          ((
              (y1 < (a0.length : Int) →
                0 ≤ y1 ∧
                y1 < (a0.length : Int) ∧
                pFieldDrop_1 (rx a0 y1) a1 ∧
                ((mFieldDrop_1 (rx a0 y1) a1) = true →
                  (Q y1)) ∧
                (¬ ((mFieldDrop_1 (rx a0 y1) a1) = true) →
                  (L0 (IntKind.i64.wrap (y1 + 1))))) ∧
              (¬ (y1 < (a0.length : Int)) →
                (Q (-1)))
            ) →
            (L0 y1)))
      ) →
      (L0 0)))

def s_impl_FieldDrop (a0 : (List Fld)) (a1 : S) (Q : ((List Fld) → Prop)) : Prop :=
  pClone_Field a0 ∧
  pDeleteFunc_FieldDrop_1 (mClone_Field a0) a1 ∧
  (Q (mDeleteFunc_FieldDrop_1 (mClone_Field a0) a1))

def s_impl_FieldDrop_1 (a0 : Fld) (a1 : S) (Q : (Bool → Prop)) : Prop :=
  (Q (decide (a0.1 = a1)))

def s_impl_Refreshed (a0 : Rsp) (a1 : Rsp) (Q : (Rsp → Prop)) : Prop :=
  pCloneResponse a0 ∧
  pWithoutBody a1.2.1 ∧
  (∀ L0 : ((Int × Rsp) → Prop),
    ((
        (∀ y1 : (Int × Rsp),
          ((
              (y1.1 < ((mWithoutBody a1.2.1).length : Int) →
                0 ≤ y1.1 ∧
                y1.1 < ((mWithoutBody a1.2.1).length : Int) ∧
                pFieldGet a1.2.1 (rx (mWithoutBody a1.2.1) y1.1).1 ∧
                pFieldSet y1.2.2.1 (rx (mWithoutBody a1.2.1) y1.1).1 (mFieldGet a1.2.1 (rx (mWithoutBody a1.2.1) y1.1).1).1 ∧
                (L0 ((IntKind.i64.wrap (y1.1 + 1)), y1.2.1, (mFieldSet y1.2.2.1 (rx (mWithoutBody a1.2.1) y1.1).1 (mFieldGet a1.2.1 (rx (mWithoutBody a1.2.1) y1.1).1).1), y1.2.2.2))) ∧
              (¬ (y1.1 < ((mWithoutBody a1.2.1).length : Int)) →
                (Q y1.2))
            ) →
            (L0 y1)))
      ) →
      (L0 (0, mCloneResponse a0))))

def s_impl_withoutBody (a0 : (List Fld)) (Q : ((List Fld) → Prop)) : Prop :=
  pFieldDrop a0 (lit [99, 111, 110, 116, 101, 110, 116, 45, 108, 101, 110, 103, 116, 104]) ∧
  pFieldDrop (mFieldDrop a0 (lit [99, 111, 110, 116, 101, 110, 116, 45, 108, 101, 110, 103, 116, 104])) (lit [116, 114, 97, 110, 115, 102, 101, 114, 45, 101, 110, 99, 111, 100, 105, 110, 103]) ∧
  (Q (mFieldDrop (mFieldDrop a0 (lit [99, 111, 110, 116, 101, 110, 116, 45, 108, 101, 110, 103, 116, 104])) (lit [116, 114, 97, 110, 115, 102, 101, 114, 45, 101, 110, 99, 111, 100, 105, 110, 103])))

def s_laws_FnExactRefreshed (a0 : Rsp) (a1 : Rsp) (Q : (Bool → Prop)) : Prop :=
  pSz a0 1048576 ∧
  ((szF a0 1048576) < 0 →
    (Q true)) ∧
  (¬ ((szF a0 1048576) < 0) →
    pSz a1 (szF a0 1048576) ∧
    ((szF a1 (szF a0 1048576)) < 0 →
      (Q true)) ∧
    (¬ ((szF a1 (szF a0 1048576)) < 0) →
      pTo a0 ∧
      pTo a1 ∧
      pRefreshed (toF a0) (toF a1) ∧
      pTo a0 ∧
      pTo a1 ∧
      pRefreshed (toF a0) (toF a1) ∧
      pEq (mRefreshed (toF a0) (toF a1)) (mRefreshed (toF a0) (toF a1)) ∧
      (¬ ((eqF (mRefreshed (toF a0) (toF a1)) (mRefreshed (toF a0) (toF a1))) = true) →
        (Q false)) ∧
      (¬ (¬ ((eqF (mRefreshed (toF a0) (toF a1)) (mRefreshed (toF a0) (toF a1))) = true)) →
        pTo a0 ∧
        pEq (toF a0) (toF a0) ∧
        (¬ ((eqF (toF a0) (toF a0)) = true) →
          (Q false)) ∧
        (¬ (¬ ((eqF (toF a0) (toF a0)) = true)) →
          pTo a1 ∧
          pEq (toF a1) (toF a1) ∧
          (¬ ((eqF (toF a1) (toF a1)) = true) →
            (Q false)) ∧
          (¬ (¬ ((eqF (toF a1) (toF a1)) = true)) →
            pMarkResponse (toF a0) 1 ∧
            pMarkResponse (toF a1) (mMarkResponse (toF a0) 1) ∧
            ((mMarkResponse (toF a1) (mMarkResponse (toF a0) 1)) < 0 →
              (Q false)) ∧
            (¬ ((mMarkResponse (toF a1) (mMarkResponse (toF a0) 1)) < 0) →
              pEq (mRefreshed (toF a0) (toF a1)) (mRefreshed (toF a0) (toF a1)) ∧
              (¬ ((eqF (mRefreshed (toF a0) (toF a1)) (mRefreshed (toF a0) (toF a1))) = true) →
                (Q false)) ∧
              (¬ (¬ ((eqF (mRefreshed (toF a0) (toF a1)) (mRefreshed (toF a0) (toF a1))) = true)) →
                pMarkResponse (mRefreshed (toF a0) (toF a1)) 1 ∧
                pHeldResponse ((mRefreshed (toF a0) (toF a1)).1, (wMarkResponse (mRefreshed (toF a0) (toF a1)) 1).1.2.1, (mRefreshed (toF a0) (toF a1)).2.2) 1 ∧
                ((mHeldResponse ((mRefreshed (toF a0) (toF a1)).1, (wMarkResponse (mRefreshed (toF a0) (toF a1)) 1).1.2.1, (mRefreshed (toF a0) (toF a1)).2.2) 1) < 0 →
                  (Q false)) ∧
                (¬ ((mHeldResponse ((mRefreshed (toF a0) (toF a1)).1, (wMarkResponse (mRefreshed (toF a0) (toF a1)) 1).1.2.1, (mRefreshed (toF a0) (toF a1)).2.2) 1) < 0) →
                  ((mHeldResponse ((mRefreshed (toF a0) (toF a1)).1, (wMarkResponse (mRefreshed (toF a0) (toF a1)) 1).1.2.1, (mRefreshed (toF a0) (toF a1)).2.2) 1) ≠ (mMarkResponse (mRefreshed (toF a0) (toF a1)) 1) →
                    (Q false)) ∧
                  (¬ ((mHeldResponse ((mRefreshed (toF a0) (toF a1)).1, (wMarkResponse (mRefreshed (toF a0) (toF a1)) 1).1.2.1, (mRefreshed (toF a0) (toF a1)).2.2) 1) ≠ (mMarkResponse (mRefreshed (toF a0) (toF a1)) 1)) →
                    pTo a0 ∧
                    pTo a1 ∧
                    pRefreshed (toF a0) (toF a1) ∧
                    pEq (mRefreshed (toF a0) (toF a1)) (mRefreshed (toF a0) (toF a1)) ∧
                    (¬ ((eqF (mRefreshed (toF a0) (toF a1)) (mRefreshed (toF a0) (toF a1))) = true) →
                      (Q false)) ∧
                    (¬ (¬ ((eqF (mRefreshed (toF a0) (toF a1)) (mRefreshed (toF a0) (toF a1))) = true)) →
                      pHeldResponse ((mRefreshed (toF a0) (toF a1)).1, (wMarkResponse (mRefreshed (toF a0) (toF a1)) 1).1.2.1, (mRefreshed (toF a0) (toF a1)).2.2) 1 ∧
                      ((mHeldResponse ((mRefreshed (toF a0) (toF a1)).1, (wMarkResponse (mRefreshed (toF a0) (toF a1)) 1).1.2.1, (mRefreshed (toF a0) (toF a1)).2.2) 1) < 0 →
                        (Q false)) ∧
                      (¬ ((mHeldResponse ((mRefreshed (toF a0) (toF a1)).1, (wMarkResponse (mRefreshed (toF a0) (toF a1)) 1).1.2.1, (mRefreshed (toF a0) (toF a1)).2.2) 1) < 0) →
                        ((mHeldResponse ((mRefreshed (toF a0) (toF a1)).1, (wMarkResponse (mRefreshed (toF a0) (toF a1)) 1).1.2.1, (mRefreshed (toF a0) (toF a1)).2.2) 1) ≠ (mMarkResponse (mRefreshed (toF a0) (toF a1)) 1) →
                          (Q false)) ∧
                        (¬ ((mHeldResponse ((mRefreshed (toF a0) (toF a1)).1, (wMarkResponse (mRefreshed (toF a0) (toF a1)) 1).1.2.1, (mRefreshed (toF a0) (toF a1)).2.2) 1) ≠ (mMarkResponse (mRefreshed (toF a0) (toF a1)) 1)) →
                          (Q true)))))))))))))

def s_spec_Refreshed (a0 : Rsp) (a1 : Rsp) (Q : (Rsp → Prop)) : Prop :=
  (([] : List Fld).length + a0.2.1.length) * 32 ≤ 140737488355328 ∧
  (∀ L0 : (((List Fld) × Int) → Prop),
    ((
        (∀ y1 : ((List Fld) × Int),
          ((
              (y1.2 < (a1.2.1.length : Int) →
                0 ≤ y1.2 ∧
                y1.2 < (a1.2.1.length : Int) ∧
                (∀ L2 : ((Bool × Int) → Prop),
                  ((
                      (∀ y3 : (Bool × Int),
                        ((
                            (y3.2 < y1.2 →
                              (y3.1 = true →
                                0 ≤ y3.2 ∧
                                y3.2 < (a1.2.1.length : Int) ∧
                                (L2 ((decide ((rx a1.2.1 y3.2).1 ≠ (rx a1.2.1 y1.2).1)), (IntKind.i64.wrap (y3.2 + 1))))) ∧
                              (¬ (y3.1 = true) →
                                (L2 (false, (IntKind.i64.wrap (y3.2 + 1)))))) ∧
                            (¬ (y3.2 < y1.2) →
                              (y3.1 = true →
                                ((rx a1.2.1 y1.2).1 ≠ (lit [99, 111, 110, 116, 101, 110, 116, 45, 108, 101, 110, 103, 116, 104]) →
                                  ((rx a1.2.1 y1.2).1 ≠ (lit [116, 114, 97, 110, 115, 102, 101, 114, 45, 101, 110, 99, 111, 100, 105, 110, 103]) →
                                    pFieldGet a1.2.1 (rx a1.2.1 y1.2).1 ∧
                                    pFieldSet y1.1 (rx a1.2.1 y1.2).1 (mFieldGet a1.2.1 (rx a1.2.1 y1.2).1).1 ∧
                                    (L0 ((mFieldSet y1.1 (rx a1.2.1 y1.2).1 (mFieldGet a1.2.1 (rx a1.2.1 y1.2).1).1), (IntKind.i64.wrap (y1.2 + 1))))) ∧
                                  (¬ ((rx a1.2.1 y1.2).1 ≠ (lit [116, 114, 97, 110, 115, 102, 101, 114, 45, 101, 110, 99, 111, 100, 105, 110, 103])) →
                                    (L0 (y1.1, (IntKind.i64.wrap (y1.2 + 1)))))) ∧
                                (¬ ((rx a1.2.1 y1.2).1 ≠ (lit [99, 111, 110, 116, 101, 110, 116, 45, 108, 101, 110, 103, 116, 104])) →
                                  (L0 (y1.1, (IntKind.i64.wrap (y1.2 + 1)))))) ∧
                              (¬ (y3.1 = true) →
                                (L0 (y1.1, (IntKind.i64.wrap (y1.2 + 1))))))
                          ) →
                          (L2 y3)))
                    ) →
                    (L2 (true, 0))))) ∧
              (¬ (y1.2 < (a1.2.1.length : Int)) →
                (Q (a0.1, y1.1, a0.2.2)))
            ) →
            (L0 y1)))
      ) →
      (L0 (([] ++ a0.2.1), 0))))

end Go.Ev
end

section
/- Laws of the plain library: what looks at an origin ask, what refreshes. -/
set_option linter.unusedVariables false
set_option linter.unusedSimpArgs false
namespace Go.Ev
theorem impl_FieldDrop_1_ok (a0 : Fld) (a1 : S) (h : pFieldDrop_1 a0 a1) : s_impl_FieldDrop_1 a0 a1 (fun r => r = mFieldDrop_1 a0 a1) := rfl
theorem IndexFunc_FieldDrop_1_ok (a0 : List Fld) (a1 : S) (h : pIndexFunc_FieldDrop_1 a0 a1) : s_IndexFunc_FieldDrop_1 a0 a1 (fun r => r = mIndexFunc_FieldDrop_1 a0 a1) :=
  idxS_ok (F := fun x => mFieldDrop_1 x a1) (by unfold pIndexFunc_FieldDrop_1 at h; simp only [maxLen]; omega) (P := fun x => pFieldDrop_1 x a1) fun x hx => trivial
theorem idxI_cases {α : Type} (p : α → Bool) (xs : List α) : (idxI p xs = -1 ∧ ∀ x ∈ xs, p x = false) ∨ ∃ i : Nat, idxI p xs = (i : Int) ∧ ∃ hi : i < xs.length, p xs[i] = true ∧ ∀ x ∈ xs.take i, p x = false := by
  unfold idxI
  cases h : xs.findIdx? p with
  | none =>
    rw [List.findIdx?_eq_none_iff] at h
    exact .inl ⟨rfl, h⟩
  | some i =>
    rw [List.findIdx?_eq_some_iff_getElem] at h
    obtain ⟨hi, hp, hb⟩ := h
    refine .inr ⟨i, rfl, hi, hp, fun x hx => ?_⟩
    obtain ⟨j, hj, rfl⟩ := List.mem_iff_getElem.1 hx
    have hj' : j < i := by rw [List.length_take] at hj; omega
    rw [List.getElem_take]
    have := hb j hj'
    simpa using this
theorem drop_of_drop {α : Type} {xs ys : List α} {j : Nat} (h : xs.drop j = ys.drop j) : xs.drop (j + 1) = ys.drop (j + 1) := by
  have := congrArg (List.drop 1) h
  simpa [List.drop_drop, Nat.add_comm] using this
theorem DeleteFunc_FieldDrop_1_ok (a0 : List Fld) (a1 : S) (h : pDeleteFunc_FieldDrop_1 a0 a1) : s_DeleteFunc_FieldDrop_1 a0 a1 (fun r => r = mDeleteFunc_FieldDrop_1 a0 a1) := by
  unfold pDeleteFunc_FieldDrop_1 at h
  have hk : ∀ f : Fld, decide (f.1 ≠ a1) = !mFieldDrop_1 f a1 := fun f => by simp [mFieldDrop_1]
  have he : mDeleteFunc_FieldDrop_1 a0 a1 = a0.filter fun f => !mFieldDrop_1 f a1 := by
    unfold mDeleteFunc_FieldDrop_1 mFieldDrop
    congr 1
    funext f
    exact hk f
  rw [he]
  unfold s_DeleteFunc_FieldDrop_1
  rcases idxI_cases (fun f => mFieldDrop_1 f a1) a0 with ⟨e, hall⟩ | ⟨k, e, hkl, hp, hb⟩
  · have e' : mIndexFunc_FieldDrop_1 a0 a1 = -1 := e
    rw [e']
    refine ⟨h, fun _ => ?_, fun hn => absurd rfl hn⟩
    exact (List.filter_eq_self.2 fun x hx => by rw [hall x hx]; rfl).symm
  · have e' : mIndexFunc_FieldDrop_1 a0 a1 = (k : Int) := e
    rw [e']
    refine ⟨h, fun hn => by omega, fun _ => ?_⟩
    have hstart : (a0.take (k + 1)).filter (fun f => !mFieldDrop_1 f a1) = a0.take k := by
      rw [take_succ_app hkl, List.filter_append, List.filter_eq_self.2 fun x hx => by rw [hb x hx]; rfl]
      simp [hp]
    intro L hL
    refine loopI hL (fun y => ∃ i j : Nat, i < j ∧ j ≤ a0.length ∧ y.1 = (i : Int) ∧ y.2.1 = (j : Int) ∧ y.2.2.length = a0.length ∧ y.2.2.take i = (a0.take j).filter (fun f => !mFieldDrop_1 f a1) ∧ y.2.2.drop j = a0.drop j) (fun y => a0.length + 1 - y.2.1.toNat) (fun y hI ih => ?_) _
      ⟨k, k + 1, by omega, by omega, rfl, by simp only; rw [wrapS (by omega)], rfl, hstart.symm, rfl⟩
    obtain ⟨i', j', xs⟩ := y
    obtain ⟨i, j, hij, hj, h1, h2, hl, ht, hd⟩ := hI
    simp only at h1 h2 hl ht hd ⊢
    subst h1 h2
    refine ⟨fun hlt => ?_, fun hge => ?_⟩
    · have hjx : j < xs.length := by omega
      have hja : j < a0.length := by omega
      have hx : rx xs (j : Int) = a0[j] := by rw [rx_get _ hjx]; exact get_of_drop hd hjx hja
      rw [hx, wrapS (by omega), wrapS (by omega)]
      refine ⟨by omega, hlt, trivial, fun hn => ⟨by omega, by omega, ?_⟩, fun hn => ?_⟩
      · refine ih _ ⟨i + 1, j + 1, by omega, by omega, rfl, rfl, by simp [hl], ?_, ?_⟩ (by simp only [Int.toNat_natCast]; omega)
        · simp only [Int.toNat_natCast]
          have hi2 : i < xs.length := by omega
          rw [List.take_add_one, List.getElem?_set_self hi2, List.take_set_of_le (Nat.le_refl _), ht, take_succ_app hja, List.filter_append]
          have : mFieldDrop_1 a0[j] a1 = false := by simpa using hn
          simp [this]
        · simp only [Int.toNat_natCast]
          rw [List.drop_set, if_pos (by omega)]
          exact drop_of_drop hd
      · refine ih _ ⟨i, j + 1, by omega, by omega, rfl, rfl, hl, ?_, drop_of_drop hd⟩ (by simp only [Int.toNat_natCast]; omega)
        rw [ht, take_succ_app hja, List.filter_append]
        have : mFieldDrop_1 a0[j] a1 = true := Classical.not_not.1 hn
        simp [this]
    · have hje : j = a0.length := by omega
      subst hje
      have hi2 : i ≤ xs.length := by omega
      simp only [Int.toNat_natCast]
      refine ⟨by omega, by omega, by omega, by simp only [List.length_append, List.length_take, List.length_replicate]; omega, ?_⟩
      rw [List.take_append_of_le_length (by rw [List.length_take]; omega), List.take_take, Nat.min_self, ht, List.take_length]
theorem impl_FieldDrop_ok (a0 : List Fld) (a1 : S) (h : pFieldDrop a0 a1) : s_impl_FieldDrop a0 a1 (fun r => r = mFieldDrop a0 a1) := ⟨h, h, rfl⟩
theorem impl_withoutBody_ok (a0 : List Fld) (h : pWithoutBody a0) : s_impl_withoutBody a0 (fun r => r = mWithoutBody a0) := ⟨h, Nat.le_trans (fieldDrop_len _ _) h, rfl⟩

theorem get_wd {l : List Fld} (h : md l) {n k : S} (hn : n.size ≤ 1048576) : wd ((n, (mFieldGet l k).1) : Fld) := by
  have h2 := fieldGet_size l k h
  exact ⟨show n.size ≤ maxLen by simp only [maxLen]; omega, show (mFieldGet l k).1.size ≤ maxLen by simp only [maxLen]; omega⟩
theorem fset_true : ∀ (l : List Fld) (n v : S), fset l n v true = l.filter fun f => decide (f.1 ≠ n)
  | [], n, v => by unfold fset; simp
  | f :: r, n, v => by
    unfold fset
    by_cases h : f.1 ≠ n
    · rw [if_pos h, fset_true r, List.filter_cons_of_pos (by simpa using h)]
    · rw [if_neg h, if_pos rfl, fset_true r, List.filter_cons_of_neg (by simpa using h)]
theorem fset_nil (n v : S) : fset [] n v false = [(n, v)] := by unfold fset; simp
theorem fset_ne {f : Fld} {r : List Fld} {n v : S} {b : Bool} (h : f.1 ≠ n) : fset (f :: r) n v b = f :: fset r n v b := by
  rw [fset, if_pos h]
theorem fset_eq {f : Fld} {r : List Fld} {n v : S} (h : f.1 = n) : fset (f :: r) n v false = (n, v) :: r.filter fun f => decide (f.1 ≠ n) := by
  rw [fset, if_neg (fun hh => hh h), if_neg (by simp), fset_true]
theorem fset_idem : ∀ (l : List Fld) (n v : S), fset (fset l n v false) n v false = fset l n v false
  | [], n, v => by rw [fset_nil, fset_eq rfl]; simp
  | f :: r, n, v => by
    by_cases h : f.1 = n
    · rw [fset_eq h, fset_eq rfl, List.filter_filter]
      simp
    · rw [fset_ne h, fset_ne h, fset_idem r]
theorem fset_drop : ∀ (r : List Fld) {n v n' : S}, n ≠ n' → fset r n v false = r → fset (r.filter fun f => decide (f.1 ≠ n')) n v false = r.filter fun f => decide (f.1 ≠ n')
  | [], n, v, n', hn, h => by rw [fset_nil] at h; cases h
  | f :: r, n, v, n', hn, h => by
    by_cases e : f.1 = n
    · rw [fset_eq e] at h
      injection h with h1 h2
      have hk : f.1 ≠ n' := by rw [e]; exact hn
      rw [List.filter_cons_of_pos (by simpa using hk), fset_eq e, ← h1]
      congr 1
      rw [List.filter_filter]
      conv => rhs; rw [← h2, List.filter_filter]
      congr 1
      funext x
      exact Bool.and_comm _ _
    · rw [fset_ne e] at h
      injection h with _ h2
      by_cases e' : f.1 = n'
      · rw [List.filter_cons_of_neg (by simpa using e')]
        exact fset_drop r hn h2
      · rw [List.filter_cons_of_pos (by simpa using e'), fset_ne e, fset_drop r hn h2]
theorem fset_keep : ∀ (l : List Fld) {n v n' v' : S}, n ≠ n' → fset l n v false = l → fset (fset l n' v' false) n v false = fset l n' v' false
  | [], n, v, n', v', hn, h => by rw [fset_nil] at h; cases h
  | f :: r, n, v, n', v', hn, h => by
    by_cases e : f.1 = n
    · rw [fset_eq e] at h
      injection h with h1 h2
      have hk : f.1 ≠ n' := by rw [e]; exact hn
      rw [fset_ne hk, fset_eq e, ← h1]
      congr 1
      refine List.filter_eq_self.2 fun x hx => ?_
      rcases fset_mem _ _ _ _ _ hx with hm | hm
      · rw [← h2] at hm
        exact (List.mem_filter.1 hm).2
      · subst hm
        simpa using Ne.symm hn
    · rw [fset_ne e] at h
      injection h with _ h2
      by_cases e' : f.1 = n'
      · rw [fset_eq e', fset_ne (Ne.symm hn)]
        rw [fset_drop r hn h2]
      · rw [fset_ne e', fset_ne e, fset_keep r hn h2]
theorem setAllF_keep {rf : List Fld} {n : S} : ∀ (ns : List Fld) (acc : List Fld), (mFieldSet acc n (mFieldGet rf n).1 = acc ∨ n ∈ ns.map (fun f => f.1)) → mFieldSet (setAllF rf acc ns) n (mFieldGet rf n).1 = setAllF rf acc ns
  | [], acc, h => by
    rcases h with h | h
    · exact h
    · simp at h
  | f :: ns, acc, h => by
    show mFieldSet (setAllF rf (mFieldSet acc f.1 (mFieldGet rf f.1).1) ns) n (mFieldGet rf n).1 = _
    refine setAllF_keep ns _ ?_
    by_cases e : f.1 = n
    · left
      rw [e]
      exact fset_idem _ _ _
    · rcases h with h | h
      · exact .inl (fset_keep _ (Ne.symm e) h)
      · right
        simp only [List.map_cons, List.mem_cons] at h
        exact h.resolve_left (Ne.symm e)
theorem setAllF_app {rf : List Fld} (acc ns : List Fld) (f : Fld) : setAllF rf acc (ns ++ [f]) = mFieldSet (setAllF rf acc ns) f.1 (mFieldGet rf f.1).1 := by
  unfold setAllF
  rw [List.foldl_append]
  rfl
theorem setAllF_len {rf : List Fld} : ∀ (ns acc : List Fld), (setAllF rf acc ns).length ≤ acc.length + ns.length
  | [], acc => Nat.le_refl _
  | f :: ns, acc => by
    have h1 := setAllF_len (rf := rf) ns (mFieldSet acc f.1 (mFieldGet rf f.1).1)
    have h2 : (mFieldSet acc f.1 (mFieldGet rf f.1).1).length ≤ acc.length + 1 := fset_length _ _ _ _
    show (setAllF rf (mFieldSet acc f.1 (mFieldGet rf f.1).1) ns).length ≤ _
    simp only [List.length_cons]
    omega
theorem setAllF_mem {rf : List Fld} {x : Fld} : ∀ (ns acc : List Fld), x ∈ setAllF rf acc ns → x ∈ acc ∨ ∃ f ∈ ns, x = (f.1, (mFieldGet rf f.1).1)
  | [], acc, h => .inl h
  | f :: ns, acc, h => by
    rcases setAllF_mem ns _ h with h | ⟨g, hg, e⟩
    · rcases fset_mem _ _ _ _ _ h with h | h
      · exact .inl h
      · exact .inr ⟨f, by simp, h⟩
    · exact .inr ⟨g, by simp [hg], e⟩
theorem refr_pre {o r : Rsp} (h : pRefreshed o r) : o.2.1.length ≤ 1048576 ∧ r.2.1.length ≤ 1048576 ∧ md r.2.1 := ⟨md_len' (md_rsp h.1), md_len' (md_rsp h.2), md_rsp h.2⟩
theorem withoutBody_len (l : List Fld) : (mWithoutBody l).length ≤ l.length := Nat.le_trans (fieldDrop_len _ _) (fieldDrop_len _ _)
theorem impl_Refreshed_ok (a0 a1 : Rsp) (h : pRefreshed a0 a1) : s_impl_Refreshed a0 a1 (fun r => r = mRefreshed a0 a1) := by
  obtain ⟨h1, h2, h3⟩ := refr_pre h
  have hw := withoutBody_len a1.2.1
  refine ⟨h.1, by unfold pWithoutBody; omega, ?_⟩
  intro L hL
  refine loopG hL (mWithoutBody a1.2.1).length (fun i y => y.1 = (i : Int) ∧ y.2 = (a0.1, setAllF a1.2.1 a0.2.1 ((mWithoutBody a1.2.1).take i), a0.2.2)) (fun i y hi hI hn => ?_) (s0 := (0, mCloneResponse a0)) ⟨rfl, rfl⟩
  obtain ⟨i', x⟩ := y
  obtain ⟨e1, e2⟩ := hI
  simp only at e1 e2 ⊢
  subst e1 e2
  rw [wrapS (by omega)]
  refine ⟨fun hlt => ?_, fun hge => ?_⟩
  · have hi2 : i < (mWithoutBody a1.2.1).length := by omega
    rw [rx_get _ hi2]
    have hl := setAllF_len (rf := a1.2.1) ((mWithoutBody a1.2.1).take i) a0.2.1
    rw [List.length_take] at hl
    refine ⟨by omega, hlt, h3, by unfold pFieldSet; simp only; omega, hn _ hi2 ⟨rfl, ?_⟩⟩
    rw [take_succ_app hi2, setAllF_app]
  · rw [List.take_of_length_le (by omega)]
    rfl
theorem wb_take {l : List Fld} {i : Nat} (hi : i < l.length) : mWithoutBody (l.take (i + 1)) = if l[i].1 ≠ nLength ∧ l[i].1 ≠ nCoding then mWithoutBody (l.take i) ++ [l[i]] else mWithoutBody (l.take i) := by
  unfold mWithoutBody mFieldDrop
  rw [take_succ_app hi, List.filter_append, List.filter_append]
  by_cases h1 : l[i].1 = nLength
  · simp [h1]
  · by_cases h2 : l[i].1 = nCoding
    · simp [h1, h2]
    · simp [h1, h2]
theorem spec_Refreshed_ok (a0 a1 : Rsp) (h : pRefreshed a0 a1) : s_spec_Refreshed a0 a1 (fun r => r = mRefreshed a0 a1) := by
  obtain ⟨h1, h2, h3⟩ := refr_pre h
  refine ⟨by simp only [List.length_nil]; omega, ?_⟩
  intro L hL
  refine loopG hL a1.2.1.length (fun i y => y.2 = (i : Int) ∧ y.1 = setAllF a1.2.1 a0.2.1 (mWithoutBody (a1.2.1.take i))) (fun i y hi hI hn => ?_) (s0 := ([] ++ a0.2.1, 0)) ⟨rfl, rfl⟩
  obtain ⟨x, i'⟩ := y
  obtain ⟨e1, e2⟩ := hI
  simp only at e1 e2 ⊢
  subst e1 e2
  refine ⟨fun hlt => ⟨by omega, hlt, ?_⟩, fun hge => ?_⟩
  · have hi2 : i < a1.2.1.length := by omega
    rw [rx_get _ hi2, wrapS (by omega)]
    have hl := setAllF_len (rf := a1.2.1) (mWithoutBody (a1.2.1.take i)) a0.2.1
    have hw := withoutBody_len (a1.2.1.take i)
    rw [List.length_take] at hw
    have hwb := wb_take hi2
    generalize hx : a1.2.1[i] = x at hwb
    intro M hM
    refine loopG hM i (fun k y => y.2 = (k : Int) ∧ y.1 = !((a1.2.1.take k).any fun f => decide (f.1 = x.1))) (fun k y hk hI hm => ?_) (s0 := (true, 0)) ⟨rfl, by simp⟩
    obtain ⟨b, k'⟩ := y
    obtain ⟨e1, e2⟩ := hI
    simp only at e1 e2 ⊢
    subst e1
    rw [wrapS (by omega)]
    refine ⟨fun hlt2 => ?_, fun hge2 => ?_⟩
    · have hk2 : k < i := by omega
      have hk3 : k < a1.2.1.length := by omega
      rw [rx_get _ hk3]
      refine ⟨fun hb => ⟨by omega, by omega, hm _ hk2 ⟨rfl, ?_⟩⟩, fun hb => hm _ hk2 ⟨rfl, ?_⟩⟩
      · rw [take_succ_app hk3, List.any_append]
        rw [e2] at hb
        simp only [Bool.not_eq_true'] at hb
        rw [hb]
        simp
      · rw [take_succ_app hk3, List.any_append]
        rw [e2] at hb
        simp only [Bool.not_eq_true', Bool.not_eq_false] at hb
        rw [hb]
        simp
    · have hki : k = i := by omega
      subst hki
      have notfirst : (x.1 ≠ nLength ∧ x.1 ≠ nCoding) → ¬ (b = true) → setAllF a1.2.1 a0.2.1 (mWithoutBody (a1.2.1.take k) ++ [x]) = setAllF a1.2.1 a0.2.1 (mWithoutBody (a1.2.1.take k)) := fun hbody hb => by
        rw [setAllF_app]
        refine setAllF_keep _ _ (.inr ?_)
        rw [e2] at hb
        simp only [Bool.not_eq_true', Bool.not_eq_false, List.any_eq_true, decide_eq_true_eq] at hb
        obtain ⟨f, hf, e⟩ := hb
        refine List.mem_map.2 ⟨f, ?_, e⟩
        unfold mWithoutBody mFieldDrop
        rw [List.mem_filter, List.mem_filter, e]
        exact ⟨⟨hf, by simpa using hbody.1⟩, by simpa using hbody.2⟩
      refine ⟨fun hb => ⟨fun c1 => ⟨fun c2 => ⟨h3, by unfold pFieldSet; omega, hn _ hi2 ⟨rfl, ?_⟩⟩, fun c2 => hn _ hi2 ⟨rfl, ?_⟩⟩, fun c1 => hn _ hi2 ⟨rfl, ?_⟩⟩, fun hb => hn _ hi2 ⟨rfl, ?_⟩⟩
      · rw [hwb, if_pos ⟨c1, c2⟩, setAllF_app]
      · rw [hwb, if_neg (fun hh => hh.2 (Classical.not_not.1 c2))]
      · rw [hwb, if_neg (fun hh => hh.1 (Classical.not_not.1 c1))]
      · rw [hwb]
        split
        · next hbody => exact (notfirst hbody hb).symm
        · rfl
  · rw [List.take_of_length_le (by omega)]
    rfl
theorem refreshed_len {o r : Rsp} (h : pRefreshed o r) : (mRefreshed o r).2.1.length ≤ 2097152 := by
  obtain ⟨h1, h2, h3⟩ := refr_pre h
  have hl := setAllF_len (rf := r.2.1) (mWithoutBody r.2.1) o.2.1
  have hw := withoutBody_len r.2.1
  show (setAllF r.2.1 o.2.1 (mWithoutBody r.2.1)).length ≤ _
  omega
theorem fld_size {l : List Fld} (h : md l) {x : Fld} (hx : x ∈ l) : x.1.size ≤ 1048576 := by
  have := md_mem h hx
  rw [cz_pair] at this
  have e : cz x.1 = x.1.size := rfl
  omega
theorem refreshed_wd {o r : Rsp} (h : pRefreshed o r) (w : wd o) : wd (mRefreshed o r) := by
  obtain ⟨h1, h2, h3⟩ := refr_pre h
  refine ⟨w.1, ⟨Nat.le_trans (refreshed_len h) (by simp only [maxLen]; omega), fun i x hx => ?_⟩, w.2.2⟩
  rcases setAllF_mem _ _ (List.mem_of_getElem? hx) with hm | ⟨f, hf, e⟩
  · exact wd_mem w.2.1 hm
  · subst e
    exact get_wd h3 (fld_size h3 (List.mem_filter.1 (List.mem_filter.1 hf).1).1)
theorem heldResponse_mark {r : Rsp} {k : Int} (h0 : 0 ≤ k) : mHeldResponse (r.1, (wMarkResponse r k).1.2.1, r.2.2) k = mMarkResponse r k := by
  have e1 : mHeldFieldS (markFld r.2.1 k) k = k + 2 * (r.2.1.length : Int) := held_mark _ _
  show (if mHeldFieldS (markFld r.2.1 k) k < 0 then -1 else mHeldFieldS (markFld r.2.1 k) k) = _
  rw [e1, if_neg (by omega)]
  rfl
def p_FnExactRefreshed (a0 a1 : Rsp) : Prop := wd a0 ∧ wd a1
theorem laws_FnExactRefreshed_ok (a0 a1 : Rsp) (h : p_FnExactRefreshed a0 a1) : s_laws_FnExactRefreshed a0 a1 (fun r => r = true) := by
  obtain ⟨w0, w1⟩ := h
  refine ⟨⟨w0, by omega, by simp [capI]⟩, fun _ => rfl, fun hs0 => ⟨pSz_next hs0 (by omega) (by omega) w1, fun _ => rfl, fun hs1 => ?_⟩⟩
  have k0 := szF_le a0 (k := 1048576) (by omega)
  have m0 : md a0 := szF_md hs0 (by omega) (by omega)
  have m1 : md a1 := szF_md hs1 (by omega) (by omega)
  have hp : pRefreshed (toF a0) (toF a1) := ⟨m0, m1⟩
  have pw := refreshed_wd hp w0
  have pl := refreshed_len hp
  have q0 := md_len' (md_rsp m0)
  have q1 := md_len' (md_rsp m1)
  have hk1 : pMarkResponse (toF a0) 1 := ⟨by omega, by omega, by show a0.2.1.length ≤ _; omega⟩
  have hk2 : pMarkResponse (toF a1) (mMarkResponse (toF a0) 1) := ⟨by show 0 ≤ 1 + 2 * (a0.2.1.length : Int); omega, by show 1 + 2 * (a0.2.1.length : Int) ≤ _; omega, by show a1.2.1.length ≤ _; omega⟩
  have hg : ¬ mMarkResponse (toF a1) (mMarkResponse (toF a0) 1) < 0 := by show ¬ (1 + 2 * (a0.2.1.length : Int) + 2 * (a1.2.1.length : Int) < 0); omega
  generalize mRefreshed (toF a0) (toF a1) = x at pw pl ⊢
  have hm : pMarkResponse x 1 := ⟨by omega, by omega, by omega⟩
  have hh : pHeldResponse (x.1, (wMarkResponse x 1).1.2.1, x.2.2) 1 := ⟨by omega, by omega, by show (markFld x.2.1 1).length ≤ _; rw [markFld_length]; omega⟩
  have he := heldResponse_mark (r := x) (k := 1) (by omega)
  have hge : ¬ mHeldResponse (x.1, (wMarkResponse x 1).1.2.1, x.2.2) 1 < 0 := by rw [he]; show ¬ (1 + 2 * (x.2.1.length : Int) < 0); omega
  have eqs : ∀ {α : Type} [DecidableEq α] (x : α), ¬ (eqF x x = true) → False := fun x hne => hne (eqF_iff.2 rfl)
  exact ⟨m0, m1, hp, m0, m1, hp, pw, fun hne => (eqs _ hne).elim, fun _ => ⟨m0, w0, fun hne => (eqs _ hne).elim, fun _ => ⟨m1, w1, fun hne => (eqs _ hne).elim, fun _ => ⟨hk1, hk2, fun hl => absurd hl hg, fun _ =>
    ⟨pw, fun hne => (eqs _ hne).elim, fun _ => ⟨hm, hh, fun hl => absurd hl hge, fun _ => ⟨fun hne => absurd he hne, fun _ => ⟨m0, m1, hp, pw, fun hne => (eqs _ hne).elim, fun _ => ⟨hh, fun hl => absurd hl hge, fun _ => ⟨fun hne => absurd he hne, fun _ => rfl⟩⟩⟩⟩⟩⟩⟩⟩⟩⟩
end Go.Ev
end

section
/- Laws of the plain library, fifth part: lists in texts. -/
set_option linter.unusedVariables false
namespace Go.Ev

end Go.Ev
end

section
/- Laws of the plain library: lists of parts, as spec takes them. -/
set_option linter.unusedVariables false
namespace Go.Ev
end Go.Ev
end

section
/- Laws of the plain library: directives. -/
set_option linter.unusedVariables false
namespace Go.Ev
end Go.Ev
end

section
/- Laws of the plain library: what may be stored, what may be shared. -/
set_option linter.unusedVariables false
namespace Go.Ev
end Go.Ev
end

section
set_option linter.unusedVariables false
namespace Go.Proofs.Ytiefookbpgdmoaa.ApT
open Go Go.Ev Go.Proofs Go.RowKit
abbrev ls3 : List L := [.int .i64]
abbrev ls4 : List L := [.bool]
abbrev ls9 : List L := [.str]
abbrev ls22 : List L := [.list 88 [.str, .str]]
abbrev ls26 : List L := [.int .i64, .list 88 [.str, .str], .str]
abbrev ls29 : List L := [.list 66 [.str, .str]]
abbrev ls35 : List L := [.int .i64, .list 66 [.str, .str], .str]
abbrev ls66 : List L := [.str, .str]
abbrev ls88 : List L := [.str, .str]
def tt : List (Nat × TI) := [
  (2, ⟨.sc, [.int .i64]⟩),
  (3, ⟨.sc, [.int .i64]⟩),
  (4, ⟨.sc, [.bool]⟩),
  (5, ⟨.sc, [.int .u8]⟩),
  (6, ⟨.sc, [.int .u8]⟩),
  (7, ⟨.st [(0, [.int .i64]), (1, [.int .i64]), (2, [.bool]), (3, [.int .u8])], [.int .i64, .int .i64, .bool, .int .u8]⟩),
  (8, ⟨.st [(0, [.int .i64]), (1, [.int .i64]), (2, [.bool]), (3, [.int .u8])], [.int .i64, .int .i64, .bool, .int .u8]⟩),
  (9, ⟨.sc, [.str]⟩),
  (10, ⟨.sc, [.str]⟩),
  (11, ⟨.sc, [.str]⟩),
  (12, ⟨.sc, [.int .u64]⟩),
  (13, ⟨.st [(0, [.str]), (1, [.int .u64])], [.str, .int .u64]⟩),
  (14, ⟨.st [(0, [.str]), (1, [.int .u64])], [.str, .int .u64]⟩),
  (21, ⟨.sc, [.int .i32]⟩),
  (22, ⟨.sl 88 [.str, .str] 32, [.list 88 [.str, .str]]⟩),
  (23, ⟨.st [(0, [.str]), (1, [.str]), (2, [.list 88 [.str, .str]]), (3, [.str])], [.str, .str, .list 88 [.str, .str], .str]⟩),
  (24, ⟨.st [(0, [.str]), (1, [.str]), (2, [.list 88 [.str, .str]]), (3, [.str])], [.str, .str, .list 88 [.str, .str], .str]⟩),
  (25, ⟨.st [(0, [.int .i64]), (1, [.list 88 [.str, .str]]), (2, [.str])], [.int .i64, .list 88 [.str, .str], .str]⟩),
  (26, ⟨.st [(0, [.int .i64]), (1, [.list 88 [.str, .str]]), (2, [.str])], [.int .i64, .list 88 [.str, .str], .str]⟩),
  (29, ⟨.sl 66 [.str, .str] 32, [.list 66 [.str, .str]]⟩),
  (30, ⟨.st [(0, [.str]), (1, [.str]), (2, [.list 66 [.str, .str]]), (3, [.str])], [.str, .str, .list 66 [.str, .str], .str]⟩),
  (31, ⟨.st [(0, [.str]), (1, [.str]), (2, [.list 66 [.str, .str]]), (3, [.str])], [.str, .str, .list 66 [.str, .str], .str]⟩),
  (34, ⟨.st [(0, [.int .i64]), (1, [.list 66 [.str, .str]]), (2, [.str])], [.int .i64, .list 66 [.str, .str], .str]⟩),
  (35, ⟨.st [(0, [.int .i64]), (1, [.list 66 [.str, .str]]), (2, [.str])], [.int .i64, .list 66 [.str, .str], .str]⟩),
  (44, ⟨.st [(0, [.str]), (1, [.list 66 [.str, .str]]), (2, [.int .i64, .list 66 [.str, .str], .str]), (5, [.int .i64]), (6, [.int .i64])], [.str, .list 66 [.str, .str], .int .i64, .list 66 [.str, .str], .str, .int .i64, .int .i64]⟩),
  (45, ⟨.st [(0, [.str]), (1, [.list 66 [.str, .str]]), (2, [.int .i64, .list 66 [.str, .str], .str]), (5, [.int .i64]), (6, [.int .i64])], [.str, .list 66 [.str, .str], .int .i64, .list 66 [.str, .str], .str, .int .i64, .int .i64]⟩),
  (46, ⟨.sl 98 [.int .i64, .int .i64, .list 66 [.str, .str], .str] 56, [.list 98 [.int .i64, .int .i64, .list 66 [.str, .str], .str]]⟩),
  (47, ⟨.st [(0, [.int .i64]), (1, [.str]), (2, [.int .i64]), (3, [.str, .str, .list 66 [.str, .str], .str]), (7, [.str, .str, .list 66 [.str, .str], .str]), (11, [.str, .list 66 [.str, .str], .int .i64, .list 66 [.str, .str], .str, .int .i64, .int .i64]), (18, [.bool]), (19, [.int .i64]), (20, [.int .i64]), (21, [.int .i64]), (22, [.int .i64]), (23, [.bool]), (24, [.int .i64, .list 66 [.str, .str], .str]), (27, [.list 98 [.int .i64, .int .i64, .list 66 [.str, .str], .str]])], [.int .i64, .str, .int .i64, .str, .str, .list 66 [.str, .str], .str, .str, .str, .list 66 [.str, .str], .str, .str, .list 66 [.str, .str], .int .i64, .list 66 [.str, .str], .str, .int .i64, .int .i64, .bool, .int .i64, .int .i64, .int .i64, .int .i64, .bool, .int .i64, .list 66 [.str, .str], .str, .list 98 [.int .i64, .int .i64, .list 66 [.str, .str], .str]]⟩),
  (48, ⟨.st [(0, [.int .i64]), (1, [.str]), (2, [.int .i64]), (3, [.str, .str, .list 66 [.str, .str], .str]), (7, [.str, .str, .list 66 [.str, .str], .str]), (11, [.str, .list 66 [.str, .str], .int .i64, .list 66 [.str, .str], .str, .int .i64, .int .i64]), (18, [.bool]), (19, [.int .i64]), (20, [.int .i64]), (21, [.int .i64]), (22, [.int .i64]), (23, [.bool]), (24, [.int .i64, .list 66 [.str, .str], .str]), (27, [.list 98 [.int .i64, .int .i64, .list 66 [.str, .str], .str]])], [.int .i64, .str, .int .i64, .str, .str, .list 66 [.str, .str], .str, .str, .str, .list 66 [.str, .str], .str, .str, .list 66 [.str, .str], .int .i64, .list 66 [.str, .str], .str, .int .i64, .int .i64, .bool, .int .i64, .int .i64, .int .i64, .int .i64, .bool, .int .i64, .list 66 [.str, .str], .str, .list 98 [.int .i64, .int .i64, .list 66 [.str, .str], .str]]⟩),
  (53, ⟨.sl 79 [.int .i64, .int .i64, .list 126 [.str, .list 66 [.str, .str], .int .i64, .list 66 [.str, .str], .str, .int .i64, .int .i64, .bool], .int .i64] 48, [.list 79 [.int .i64, .int .i64, .list 126 [.str, .list 66 [.str, .str], .int .i64, .list 66 [.str, .str], .str, .int .i64, .int .i64, .bool], .int .i64]]⟩),
  (54, ⟨.sl 105 [.str, .int .i64] 24, [.list 105 [.str, .int .i64]]⟩),
  (55, ⟨.st [(0, [.list 79 [.int .i64, .int .i64, .list 126 [.str, .list 66 [.str, .str], .int .i64, .list 66 [.str, .str], .str, .int .i64, .int .i64, .bool], .int .i64]]), (1, [.list 105 [.str, .int .i64]])], [.list 79 [.int .i64, .int .i64, .list 126 [.str, .list 66 [.str, .str], .int .i64, .list 66 [.str, .str], .str, .int .i64, .int .i64, .bool], .int .i64], .list 105 [.str, .int .i64]]⟩),
  (56, ⟨.st [(0, [.list 79 [.int .i64, .int .i64, .list 126 [.str, .list 66 [.str, .str], .int .i64, .list 66 [.str, .str], .str, .int .i64, .int .i64, .bool], .int .i64]]), (1, [.list 105 [.str, .int .i64]])], [.list 79 [.int .i64, .int .i64, .list 126 [.str, .list 66 [.str, .str], .int .i64, .list 66 [.str, .str], .str, .int .i64, .int .i64, .bool], .int .i64], .list 105 [.str, .int .i64]]⟩),
  (65, ⟨.st [(0, [.str]), (1, [.str])], [.str, .str]⟩),
  (66, ⟨.st [(0, [.str]), (1, [.str])], [.str, .str]⟩),
  (77, ⟨.sl 126 [.str, .list 66 [.str, .str], .int .i64, .list 66 [.str, .str], .str, .int .i64, .int .i64, .bool] 112, [.list 126 [.str, .list 66 [.str, .str], .int .i64, .list 66 [.str, .str], .str, .int .i64, .int .i64, .bool]]⟩),
  (78, ⟨.st [(0, [.int .i64]), (1, [.int .i64]), (2, [.list 126 [.str, .list 66 [.str, .str], .int .i64, .list 66 [.str, .str], .str, .int .i64, .int .i64, .bool]]), (3, [.int .i64])], [.int .i64, .int .i64, .list 126 [.str, .list 66 [.str, .str], .int .i64, .list 66 [.str, .str], .str, .int .i64, .int .i64, .bool], .int .i64]⟩),
  (79, ⟨.st [(0, [.int .i64]), (1, [.int .i64]), (2, [.list 126 [.str, .list 66 [.str, .str], .int .i64, .list 66 [.str, .str], .str, .int .i64, .int .i64, .bool]]), (3, [.int .i64])], [.int .i64, .int .i64, .list 126 [.str, .list 66 [.str, .str], .int .i64, .list 66 [.str, .str], .str, .int .i64, .int .i64, .bool], .int .i64]⟩),
  (88, ⟨.st [(0, [.str]), (1, [.str])], [.str, .str]⟩),
  (92, ⟨.sl 9 [.str] 16, [.list 9 [.str]]⟩),
  (97, ⟨.st [(0, [.int .i64]), (1, [.int .i64, .list 66 [.str, .str], .str])], [.int .i64, .int .i64, .list 66 [.str, .str], .str]⟩),
  (98, ⟨.st [(0, [.int .i64]), (1, [.int .i64, .list 66 [.str, .str], .str])], [.int .i64, .int .i64, .list 66 [.str, .str], .str]⟩),
  (99, ⟨.sc, [.int .u64]⟩),
  (104, ⟨.st [(0, [.str]), (1, [.int .i64])], [.str, .int .i64]⟩),
  (105, ⟨.st [(0, [.str]), (1, [.int .i64])], [.str, .int .i64]⟩),
  (109, ⟨.sl 5 [.int .u8] 1, [.list 5 [.int .u8]]⟩),
  (118, ⟨.sc, [.int .u32]⟩),
  (121, ⟨.sc, [.int .u64]⟩),
  (125, ⟨.st [(0, [.str, .list 66 [.str, .str], .int .i64, .list 66 [.str, .str], .str, .int .i64, .int .i64]), (7, [.bool])], [.str, .list 66 [.str, .str], .int .i64, .list 66 [.str, .str], .str, .int .i64, .int .i64, .bool]⟩),
  (126, ⟨.st [(0, [.str, .list 66 [.str, .str], .int .i64, .list 66 [.str, .str], .str, .int .i64, .int .i64]), (7, [.bool])], [.str, .list 66 [.str, .str], .int .i64, .list 66 [.str, .str], .str, .int .i64, .int .i64, .bool]⟩),
  (138, ⟨.sc, [.int .u8]⟩),
  (139, ⟨.sc, [.int .u8]⟩),
  (141, ⟨.sc, [.int .i32]⟩),
  (142, ⟨.sc, [.int .i32]⟩)]
theorem ttOk : ttB Try.prog tt = true := by kernel_rfl
theorem mixOk : Try.prog.follows .mixedOrders = true := by kernel_rfl
def J (_ : World) : Prop := True
theorem J_below {w w' : World} (h : J w) (_ : Below w.heap.size w w') : J w' := trivial
def Jn (n : Nat) (w : World) : Prop := ∃ w0 : World, w0.heap.size = n ∧ J w0 ∧ Below n w0 w
theorem Jn_J {n : Nat} {w : World} (h : Jn n w) : J w := by
  obtain ⟨w0, rfl, h1, h2⟩ := h
  exact J_below h1 h2
theorem Jn_below {n : Nat} {w w' : World} (h : Jn n w) (hb : Below n w w') : Jn n w' := by
  obtain ⟨w0, h0, h1, h2⟩ := h
  exact ⟨w0, h0, h1, h2.trans hb⟩
theorem Jn_of {w w' : World} (h : J w) (hb : Below w.heap.size w w') : Jn w.heap.size w' := ⟨w, rfl, h, hb⟩
noncomputable def E62 : Env := { tt, eqs := [], cts := [] }
theorem ok62 : EnvOk Try.prog E62 := ⟨ttOk, by kernel_rfl, rfl, mixOk⟩
theorem cs62 (w0 : World) (hJ : J w0) : EnvCts Try.prog E62 w0 w0.heap.size := by
  refine ⟨fun c hc => ?_, fun c hc => ?_⟩
  · cases hc
  · cases hc
noncomputable def ct62 : Ct := { f := 62, ps := [.v true .ro ls88, .v false .ro [.int .i64]], rs := [(false, [.int .i64])], shared := false, pre := fun (q : Fld × Int) => pSz q.1 q.2, F := fun (q : Fld × Int) => szF q.1 q.2 }
def st62 : List (SzStep Fld) := [.str (fun x : Fld => x.1), .str (fun x : Fld => x.2)]
theorem c62 (x : Fld) : szSum x st62 = cz x := by
  simp only [szSum, st62, cz_pair, cz_int, cz_bool, cz_str]
  all_goals omega
theorem w62 (x : Fld) (h : wd x) : szFine x st62 := by
  first | simp only [wd_pair] at h | skip
  simp only [szFine, st62, wd_pair, wf_wd]
  simp only [h, and_self]
theorem law62 : ∀ q : Fld × Int, pSz q.1 q.2 → szSt q.1 st62 q.2 (fun r => r = szF q.1 q.2) := fun q hq => szSt_holds q.1 st62 q.2 _ (w62 q.1 hq.1) hq.2.1 hq.2.2 (c62 q.1)
theorem all62 (w : World) (hJ : J w) : CtAt Try.prog ct62 w :=
  ct_by ok62 (cs62 w hJ) Try.func62 (by kernel_rfl) (H := (hint [])) law62 (by kernel_rfl)
noncomputable def E31 : Env := { tt, eqs := [], cts := [ct62] }
theorem ok31 : EnvOk Try.prog E31 := ⟨ttOk, by kernel_rfl, rfl, mixOk⟩
theorem cs31 (w0 : World) (hJ : J w0) : EnvCts Try.prog E31 w0 w0.heap.size := by
  refine ⟨fun c hc => ?_, fun c hc => ?_⟩
  · rcases List.mem_cons.1 hc with rfl | hc
    · exact fun w hb => all62 w (J_below hJ hb)
    cases hc
  · cases hc
noncomputable def ct31 : Ct := { f := 31, ps := [.v false .ro ls22, .v false .ro [.int .i64]], rs := [(false, [.int .i64])], shared := false, pre := fun (q : (List Fld) × Int) => pSz q.1 q.2, F := fun (q : (List Fld) × Int) => szF q.1 q.2 }
theorem law31 : ∀ q : (List Fld) × Int, pSz q.1 q.2 → szS (α := Fld) Dft.dft (fun y k => pSz y k) (fun y k => szF y k) q.1 q.2 (fun r => r = szF q.1 q.2) := fun q hq => szS_holds (α := Fld) Dft.dft cz wd q.1 q.2 hq.1.1 hq.1.2 hq.2.1 hq.2.2
theorem all31 (w : World) (hJ : J w) : CtAt Try.prog ct31 w :=
  ct_by ok31 (cs31 w hJ) Try.func31 (by kernel_rfl) (H := (hint [(5, [.val 1 (.int .i64), .val 5 (.int .i64)])])) law31 (by kernel_rfl)
noncomputable def E8 : Env := { tt, eqs := [], cts := [ct31] }
theorem ok8 : EnvOk Try.prog E8 := ⟨ttOk, by kernel_rfl, rfl, mixOk⟩
theorem cs8 (w0 : World) (hJ : J w0) : EnvCts Try.prog E8 w0 w0.heap.size := by
  refine ⟨fun c hc => ?_, fun c hc => ?_⟩
  · rcases List.mem_cons.1 hc with rfl | hc
    · exact fun w hb => all31 w (J_below hJ hb)
    cases hc
  · cases hc
noncomputable def ct8 : Ct := { f := 8, ps := [.v true .ro ls26, .v false .ro [.int .i64]], rs := [(false, [.int .i64])], shared := false, pre := fun (q : Rsp × Int) => pSz q.1 q.2, F := fun (q : Rsp × Int) => szF q.1 q.2 }
def st8 : List (SzStep Rsp) := [.call (fun x : Rsp => wd (x.2.1 : (List Fld))) (fun x : Rsp => cz (x.2.1 : (List Fld))), .str (fun x : Rsp => x.2.2)]
theorem c8 (x : Rsp) : szSum x st8 = cz x := by
  simp only [szSum, st8, cz_pair, cz_int, cz_bool, cz_str]
  all_goals omega
theorem w8 (x : Rsp) (h : wd x) : szFine x st8 := by
  first | simp only [wd_pair] at h | skip
  simp only [szFine, st8, wd_pair, wf_wd]
  simp only [h, and_self]
theorem law8 : ∀ q : Rsp × Int, pSz q.1 q.2 → szSt q.1 st8 q.2 (fun r => r = szF q.1 q.2) := fun q hq => szSt_holds q.1 st8 q.2 _ (w8 q.1 hq.1) hq.2.1 hq.2.2 (c8 q.1)
theorem all8 (w : World) (hJ : J w) : CtAt Try.prog ct8 w :=
  ct_by ok8 (cs8 w hJ) Try.func8 (by kernel_rfl) (H := (hint [])) law8 (by kernel_rfl)
noncomputable def E63 : Env := { tt, eqs := [], cts := [] }
theorem ok63 : EnvOk Try.prog E63 := ⟨ttOk, by kernel_rfl, rfl, mixOk⟩
theorem cs63 (w0 : World) (hJ : J w0) : EnvCts Try.prog E63 w0 w0.heap.size := by
  refine ⟨fun c hc => ?_, fun c hc => ?_⟩
  · cases hc
  · cases hc
noncomputable def ct63 : Ct := { f := 63, ps := [.v true .ro ls88], rs := [(true, ls66)], shared := false, pre := fun (x : Fld) => pTo x, F := fun (x : Fld) => toF x }
theorem law63 : ∀ q : Fld, pTo q → conj [] (q = toF q) := fun q hq => rfl
theorem all63 (w : World) (hJ : J w) : CtAt Try.prog ct63 w :=
  ct_by ok63 (cs63 w hJ) Try.func63 (by kernel_rfl) (H := (hint [])) law63 (by kernel_rfl)
noncomputable def E34 : Env := { tt, eqs := [], cts := [ct63] }
theorem ok34 : EnvOk Try.prog E34 := ⟨ttOk, by kernel_rfl, rfl, mixOk⟩
theorem cs34 (w0 : World) (hJ : J w0) : EnvCts Try.prog E34 w0 w0.heap.size := by
  refine ⟨fun c hc => ?_, fun c hc => ?_⟩
  · rcases List.mem_cons.1 hc with rfl | hc
    · exact fun w hb => all63 w (J_below hJ hb)
    cases hc
  · cases hc
noncomputable def ct34 : Ct := { f := 34, ps := [.v false .ro ls22], rs := [(false, ls29)], shared := false, pre := fun (x : (List Fld)) => pTo x, F := fun (x : (List Fld)) => toF x }
theorem law34 : ∀ q : (List Fld), pTo q → toS (α := Fld) Dft.dft 32 (fun y => pTo y) q (fun r => r = toF q) := fun q hq => toS_holds (α := Fld) Dft.dft 32 (fun y => pTo y) q (md_len' hq) (by omega) (fun i a h => md_mem hq (List.mem_of_getElem? h)) rfl
theorem all34 (w : World) (hJ : J w) : CtAt Try.prog ct34 w :=
  ct_by ok34 (cs34 w hJ) Try.func34 (by kernel_rfl) (H := (hint [(3, [.reg 3 66 ls66 true, .val 4 (.int .i64)])])) law34 (by kernel_rfl)
noncomputable def E11 : Env := { tt, eqs := [], cts := [ct34] }
theorem ok11 : EnvOk Try.prog E11 := ⟨ttOk, by kernel_rfl, rfl, mixOk⟩
theorem cs11 (w0 : World) (hJ : J w0) : EnvCts Try.prog E11 w0 w0.heap.size := by
  refine ⟨fun c hc => ?_, fun c hc => ?_⟩
  · rcases List.mem_cons.1 hc with rfl | hc
    · exact fun w hb => all34 w (J_below hJ hb)
    cases hc
  · cases hc
noncomputable def ct11 : Ct := { f := 11, ps := [.v true .ro ls26], rs := [(true, ls35)], shared := false, pre := fun (x : Rsp) => pTo x, F := fun (x : Rsp) => toF x }
theorem law11 : ∀ q : Rsp, pTo q → conj [pTo (q.2.1 : (List Fld))] (q = toF q) := fun q hq => ⟨(czh (czt hq)), rfl⟩
theorem all11 (w : World) (hJ : J w) : CtAt Try.prog ct11 w :=
  ct_by ok11 (cs11 w hJ) Try.func11 (by kernel_rfl) (H := (hint [])) law11 (by kernel_rfl)
noncomputable def E33 : Env := { tt, eqs := [], cts := [] }
theorem ok33 : EnvOk Try.prog E33 := ⟨ttOk, by kernel_rfl, rfl, mixOk⟩
theorem cs33 (w0 : World) (hJ : J w0) : EnvCts Try.prog E33 w0 w0.heap.size := by
  refine ⟨fun c hc => ?_, fun c hc => ?_⟩
  · cases hc
  · cases hc
noncomputable def ct33 : Ct := { f := 33, ps := [.v false .ro ls29, .v false .ro ls9], rs := [(false, ls9), (false, ls4)], shared := false, pre := fun (x : (List Fld) × S) => pFieldGet x.1 x.2, F := fun (x : (List Fld) × S) => mFieldGet x.1 x.2 }
theorem law33 : ∀ x : (List Fld) × S, pFieldGet x.1 x.2 → s_spec_FieldGet x.1 x.2 (fun r => r = mFieldGet x.1 x.2) := fun x h => spec_FieldGet_ok x.1 x.2 h
theorem all33 (w : World) (hJ : J w) : CtAt Try.prog ct33 w :=
  ct_by ok33 (cs33 w hJ) Try.func33 (by kernel_rfl) (H := (hint [(4, [.val 6 (.str), .val 7 (.bool), .val 8 (.int .i64)])])) law33 (by kernel_rfl)
noncomputable def E65 : Env := { tt, eqs := [], cts := [] }
theorem ok65 : EnvOk Try.prog E65 := ⟨ttOk, by kernel_rfl, rfl, mixOk⟩
theorem cs65 (w0 : World) (hJ : J w0) : EnvCts Try.prog E65 w0 w0.heap.size := by
  refine ⟨fun c hc => ?_, fun c hc => ?_⟩
  · cases hc
  · cases hc
noncomputable def ct65 : Ct := { f := 65, ps := [.v false .ro ls29], rs := [(false, ls29)], shared := false, pre := fun (x : (List Fld)) => pClone_Field x, F := fun (x : (List Fld)) => mClone_Field x }
theorem law65 : ∀ x : (List Fld), pClone_Field x → s_slices_Clone_Field x (fun r => r = mClone_Field x) := fun x h => slices_Clone_Field_ok x h
theorem all65 (w : World) (hJ : J w) : CtAt Try.prog ct65 w :=
  ct_by ok65 (cs65 w hJ) Try.func65 (by kernel_rfl) (H := (hint [])) law65 (by kernel_rfl)
noncomputable def E66 : Env := { tt, eqs := [], cts := [] }
theorem ok66 : EnvOk Try.prog E66 := ⟨ttOk, by kernel_rfl, rfl, mixOk⟩
theorem cs66 (w0 : World) (hJ : J w0) : EnvCts Try.prog E66 w0 w0.heap.size := by
  refine ⟨fun c hc => ?_, fun c hc => ?_⟩
  · cases hc
  · cases hc
noncomputable def ct66 : Ct := { f := 66, ps := [.v true .ro ls66, .p false ls9], rs := [(false, ls4)], shared := false, pre := fun (x : Fld × S) => pFieldDrop_1 x.1 x.2, F := fun (x : Fld × S) => mFieldDrop_1 x.1 x.2 }
theorem law66 : ∀ x : Fld × S, pFieldDrop_1 x.1 x.2 → s_impl_FieldDrop_1 x.1 x.2 (fun r => r = mFieldDrop_1 x.1 x.2) := fun x h => impl_FieldDrop_1_ok x.1 x.2 h
theorem all66 (w : World) (hJ : J w) : CtAt Try.prog ct66 w :=
  ct_by ok66 (cs66 w hJ) Try.func66 (by kernel_rfl) (H := (hint [])) law66 (by kernel_rfl)
noncomputable def E76_66 : Env := { tt, eqs := [], cts := [ct66] }
theorem ok76_66 : EnvOk Try.prog E76_66 := ⟨ttOk, by kernel_rfl, rfl, mixOk⟩
theorem cs76_66 (w0 : World) (hJ : J w0) : EnvCts Try.prog E76_66 w0 w0.heap.size := by
  refine ⟨fun c hc => ?_, fun c hc => ?_⟩
  · rcases List.mem_cons.1 hc with rfl | hc
    · exact fun w hb => all66 w (J_below hJ hb)
    cases hc
  · cases hc
noncomputable def ct76_66 : Ct := { f := 76, ps := [.v false .ro ls29, .c 66 [ls9]], rs := [(false, ls3)], shared := false, pre := fun (x : (List Fld) × S) => pIndexFunc_FieldDrop_1 x.1 x.2, F := fun (x : (List Fld) × S) => mIndexFunc_FieldDrop_1 x.1 x.2 }
theorem law76_66 : ∀ x : (List Fld) × S, pIndexFunc_FieldDrop_1 x.1 x.2 → s_IndexFunc_FieldDrop_1 x.1 x.2 (fun r => r = mIndexFunc_FieldDrop_1 x.1 x.2) := fun x h => IndexFunc_FieldDrop_1_ok x.1 x.2 h
theorem all76_66 (w : World) (hJ : J w) : CtAt Try.prog ct76_66 w :=
  ct_by ok76_66 (cs76_66 w hJ) Try.func76 (by kernel_rfl) (H := (hint [(2, [.val 8 (.int .i64)])])) law76_66 (by kernel_rfl)
noncomputable def E64_66 : Env := { tt, eqs := [], cts := [ct76_66, ct66] }
theorem ok64_66 : EnvOk Try.prog E64_66 := ⟨ttOk, by kernel_rfl, rfl, mixOk⟩
theorem cs64_66 (m : Nat) (w0 : World) (hJ : Jn m w0) : EnvCts Try.prog E64_66 w0 m := by
  refine ⟨fun c hc => ?_, fun c hc => ?_⟩
  · rcases List.mem_cons.1 hc with rfl | hc
    · exact fun w hb => all76_66 w (Jn_J (Jn_below hJ hb))
    rcases List.mem_cons.1 hc with rfl | hc
    · exact fun w hb => all66 w (Jn_J (Jn_below hJ hb))
    cases hc
  · cases hc
noncomputable def ct64_66 : CtM := { f := 64, ps := [.v false .mv ls29, .c 66 [ls9]], rs := [(false, ls29)], pre := fun (x : (List Fld) × S) => pDeleteFunc_FieldDrop_1 x.1 x.2, F := fun (x : (List Fld) × S) => mDeleteFunc_FieldDrop_1 x.1 x.2, W := fun (x : (List Fld) × S) => x, q := true }
theorem law64_66 : ∀ x : (List Fld) × S, pDeleteFunc_FieldDrop_1 x.1 x.2 → s_DeleteFunc_FieldDrop_1 x.1 x.2 (fun r => r = mDeleteFunc_FieldDrop_1 x.1 x.2 ∧ x = x) := fun x h => by
  have e : (fun r : (List Fld) => r = mDeleteFunc_FieldDrop_1 x.1 x.2 ∧ x = x) = fun r => r = mDeleteFunc_FieldDrop_1 x.1 x.2 := by funext r; simp
  rw [e]
  exact DeleteFunc_FieldDrop_1_ok x.1 x.2 h
theorem all64_66 (m : Nat) (w : World) (hJ : Jn m w) : CtMAt Try.prog ct64_66 m w :=
  ctq_by ok64_66 (cs64_66 m w hJ) Try.func64 (by kernel_rfl) (H := (hint [(5, [.val 5 (.int .i64), .val 6 (.int .i64), .reg 0 66 [.str, .str] true])])) law64_66 (by kernel_rfl)
noncomputable def E35 : Env := { tt, eqs := [], cts := [ct65], ms := [ct64_66] }
theorem ok35 : EnvOk Try.prog E35 := ⟨ttOk, by kernel_rfl, rfl, mixOk⟩
theorem cs35 (w0 : World) (hJ : J w0) : EnvCts Try.prog E35 w0 w0.heap.size := by
  refine ⟨fun c hc => ?_, fun c hc => ?_⟩
  · rcases List.mem_cons.1 hc with rfl | hc
    · exact fun w hb => all65 w (J_below hJ hb)
    cases hc
  · rcases List.mem_cons.1 hc with rfl | hc
    · exact fun w hb => all64_66 w0.heap.size w (Jn_of hJ hb)
    cases hc
noncomputable def ct35 : Ct := { f := 35, ps := [.v false .ro ls29, .v false .ro ls9], rs := [(false, ls29)], shared := false, pre := fun (x : (List Fld) × S) => pFieldDrop x.1 x.2, F := fun (x : (List Fld) × S) => mFieldDrop x.1 x.2 }
theorem law35 : ∀ x : (List Fld) × S, pFieldDrop x.1 x.2 → s_impl_FieldDrop x.1 x.2 (fun r => r = mFieldDrop x.1 x.2) := fun x h => impl_FieldDrop_ok x.1 x.2 h
theorem all35 (w : World) (hJ : J w) : CtAt Try.prog ct35 w :=
  ct_by ok35 (cs35 w hJ) Try.func35 (by kernel_rfl) (H := (hint [])) law35 (by kernel_rfl)
noncomputable def ct67 : Ct := joinCt 9 67
theorem all67 (w : World) (hJ : J w) : CtAt Try.prog ct67 w := join_ct ⟨_, Try.func67, by kernel_rfl, by kernel_rfl⟩ (fun a c sep => Try.strings_Join_none a c sep w) (fun bk o c xs sep h1 h2 h3 h4 h5 => Try.strings_Join bk o c xs sep w h1 h2 h3 h4 h5)
noncomputable def E36 : Env := { tt, eqs := [], cts := [ct67] }
theorem ok36 : EnvOk Try.prog E36 := ⟨ttOk, by kernel_rfl, rfl, mixOk⟩
theorem cs36 (w0 : World) (hJ : J w0) : EnvCts Try.prog E36 w0 w0.heap.size := by
  refine ⟨fun c hc => ?_, fun c hc => ?_⟩
  · rcases List.mem_cons.1 hc with rfl | hc
    · exact fun w hb => all67 w (J_below hJ hb)
    cases hc
  · cases hc
noncomputable def ct36 : Ct := { f := 36, ps := [.v false .ro ls29, .v false .ro ls9], rs := [(false, ls9), (false, ls4)], shared := false, pre := fun (x : (List Fld) × S) => pFieldGet x.1 x.2, F := fun (x : (List Fld) × S) => mFieldGet x.1 x.2 }
theorem law36 : ∀ x : (List Fld) × S, pFieldGet x.1 x.2 → s_impl_FieldGet x.1 x.2 (fun r => r = mFieldGet x.1 x.2) := fun x h => impl_FieldGet_ok x.1 x.2 h
theorem all36 (w : World) (hJ : J w) : CtAt Try.prog ct36 w :=
  ct_by ok36 (cs36 w hJ) Try.func36 (by kernel_rfl) (H := (hint [(3, [.reg 6 9 [.str] true, .val 12 (.int .i64)])])) law36 (by kernel_rfl)
noncomputable def E68 : Env := { tt, eqs := [], cts := [] }
theorem ok68 : EnvOk Try.prog E68 := ⟨ttOk, by kernel_rfl, rfl, mixOk⟩
theorem cs68 (w0 : World) (hJ : J w0) : EnvCts Try.prog E68 w0 w0.heap.size := by
  refine ⟨fun c hc => ?_, fun c hc => ?_⟩
  · cases hc
  · cases hc
noncomputable def ct68 : Ct := { f := 68, ps := [.v true .ro ls66, .v true .ro ls66], rs := [(false, [.bool])], shared := false, pre := fun (q : Fld × Fld) => pEq q.1 q.2, F := fun (q : Fld × Fld) => eqF q.1 q.2 }
def st68 : List (EqStep Fld) := [.ne (fun (x y : Fld) => x.1 ≠ y.1), .ne (fun (x y : Fld) => x.2 ≠ y.2)]
def mk68 (a0 : S) (a1 : S) : Fld := (a0, a1)
theorem a68 (x y : Fld) : eqAll x y st68 ↔ x = y := by
  constructor
  · rintro ⟨h0, h1, -⟩
    have h0 : x.1 = y.1 := Classical.byContradiction h0
    have h1 : x.2 = y.2 := Classical.byContradiction h1
    show mk68 (x.1) (x.2) = mk68 (y.1) (y.2)
    rw [h0, h1]
    all_goals rfl
  · rintro rfl
    exact ⟨fun h => h rfl, fun h => h rfl, trivial⟩
theorem w68 (x y : Fld) (h : wd x) : eqFine x y st68 := by
  first | simp only [wd_pair] at h | skip
  simp only [eqFine, st68, wd_pair]
  all_goals simp only [h, and_self]
theorem law68 : ∀ q : Fld × Fld, pEq q.1 q.2 → eqSt q.1 q.2 st68 (fun r => r = eqF q.1 q.2) := fun q hq => eqSt_holds q.1 q.2 st68 (w68 q.1 q.2 hq) (eqF_iff.trans (a68 q.1 q.2).symm)
theorem all68 (w : World) (hJ : J w) : CtAt Try.prog ct68 w :=
  ct_by ok68 (cs68 w hJ) Try.func68 (by kernel_rfl) (H := (hint [])) law68 (by kernel_rfl)
noncomputable def E37 : Env := { tt, eqs := [], cts := [ct68] }
theorem ok37 : EnvOk Try.prog E37 := ⟨ttOk, by kernel_rfl, rfl, mixOk⟩
theorem cs37 (w0 : World) (hJ : J w0) : EnvCts Try.prog E37 w0 w0.heap.size := by
  refine ⟨fun c hc => ?_, fun c hc => ?_⟩
  · rcases List.mem_cons.1 hc with rfl | hc
    · exact fun w hb => all68 w (J_below hJ hb)
    cases hc
  · cases hc
noncomputable def ct37 : Ct := { f := 37, ps := [.v false .ro ls29, .v false .ro ls29], rs := [(false, [.bool])], shared := false, pre := fun (q : (List Fld) × (List Fld)) => pEq q.1 q.2, F := fun (q : (List Fld) × (List Fld)) => eqF q.1 q.2 }
theorem law37 : ∀ q : (List Fld) × (List Fld), pEq q.1 q.2 → eqS (α := Fld) Dft.dft (fun a b => pEq a b) (fun a b => eqF a b) q.1 q.2 (fun r => r = eqF q.1 q.2) := fun q hq => eqS_holds (α := Fld) Dft.dft (fun a b => pEq a b) (fun a b => eqF a b) q.1 q.2 hq.1 (fun i a _ h => hq.2 i a h) (fun _ _ => eqF_iff) eqF_iff
theorem all37 (w : World) (hJ : J w) : CtAt Try.prog ct37 w :=
  ct_by ok37 (cs37 w hJ) Try.func37 (by kernel_rfl) (H := (hint [(4, [.val 5 (.int .i64)])])) law37 (by kernel_rfl)
noncomputable def E14 : Env := { tt, eqs := [], cts := [ct37] }
theorem ok14 : EnvOk Try.prog E14 := ⟨ttOk, by kernel_rfl, rfl, mixOk⟩
theorem cs14 (w0 : World) (hJ : J w0) : EnvCts Try.prog E14 w0 w0.heap.size := by
  refine ⟨fun c hc => ?_, fun c hc => ?_⟩
  · rcases List.mem_cons.1 hc with rfl | hc
    · exact fun w hb => all37 w (J_below hJ hb)
    cases hc
  · cases hc
noncomputable def ct14 : Ct := { f := 14, ps := [.v true .ro ls35, .v true .ro ls35], rs := [(false, [.bool])], shared := false, pre := fun (q : Rsp × Rsp) => pEq q.1 q.2, F := fun (q : Rsp × Rsp) => eqF q.1 q.2 }
def st14 : List (EqStep Rsp) := [.ne (fun (x y : Rsp) => x.1 ≠ y.1), .call (fun (x _ : Rsp) => wd (x.2.1 : (List Fld))) (fun (x y : Rsp) => eqF (x.2.1 : (List Fld)) y.2.1), .ne (fun (x y : Rsp) => x.2.2 ≠ y.2.2)]
def mk14 (a0 : Int) (a1 : (List Fld)) (a2 : S) : Rsp := (a0, a1, a2)
theorem a14 (x y : Rsp) : eqAll x y st14 ↔ x = y := by
  constructor
  · rintro ⟨h0, h1, h2, -⟩
    have h0 : x.1 = y.1 := Classical.byContradiction h0
    have h1 : (x.2.1 : (List Fld)) = y.2.1 := eqF_iff.1 h1
    have h2 : x.2.2 = y.2.2 := Classical.byContradiction h2
    show mk14 (x.1) (x.2.1) (x.2.2) = mk14 (y.1) (y.2.1) (y.2.2)
    rw [h0, h1, h2]
    all_goals rfl
  · rintro rfl
    exact ⟨fun h => h rfl, eqF_iff.2 rfl, fun h => h rfl, trivial⟩
theorem w14 (x y : Rsp) (h : wd x) : eqFine x y st14 := by
  first | simp only [wd_pair] at h | skip
  simp only [eqFine, st14, wd_pair]
  all_goals simp only [h, and_self]
theorem law14 : ∀ q : Rsp × Rsp, pEq q.1 q.2 → eqSt q.1 q.2 st14 (fun r => r = eqF q.1 q.2) := fun q hq => eqSt_holds q.1 q.2 st14 (w14 q.1 q.2 hq) (eqF_iff.trans (a14 q.1 q.2).symm)
theorem all14 (w : World) (hJ : J w) : CtAt Try.prog ct14 w :=
  ct_by ok14 (cs14 w hJ) Try.func14 (by kernel_rfl) (H := (hint [])) law14 (by kernel_rfl)
noncomputable def E69 : Env := { tt, eqs := [], cts := [] }
theorem ok69 : EnvOk Try.prog E69 := ⟨ttOk, by kernel_rfl, rfl, mixOk⟩
theorem cs69 (w0 : World) (hJ : J w0) : EnvCts Try.prog E69 w0 w0.heap.size := by
  refine ⟨fun c hc => ?_, fun c hc => ?_⟩
  · cases hc
  · cases hc
noncomputable def ct69 : Ct := { f := 69, ps := [.v false .ro ls3], rs := [(false, ls9)], shared := false, pre := fun (x : Int) => pMarkText x, F := fun (x : Int) => mMarkText x }
theorem law69 : ∀ x : Int, pMarkText x → s_laws_markText x (fun r => r = mMarkText x) := fun x h => laws_markText_ok x h
theorem all69 (w : World) (hJ : J w) : CtAt Try.prog ct69 w :=
  ct_by ok69 (cs69 w hJ) Try.func69 (by kernel_rfl) (H := (hint [(4, [.val 0 (.int .i64), .val 3 (.str)])])) law69 (by kernel_rfl)
noncomputable def E38 : Env := { tt, eqs := [], cts := [ct69] }
theorem ok38 : EnvOk Try.prog E38 := ⟨ttOk, by kernel_rfl, rfl, mixOk⟩
theorem cs38 (m : Nat) (w0 : World) (hJ : Jn m w0) : EnvCts Try.prog E38 w0 m := by
  refine ⟨fun c hc => ?_, fun c hc => ?_⟩
  · rcases List.mem_cons.1 hc with rfl | hc
    · exact fun w hb => all69 w (Jn_J (Jn_below hJ hb))
    cases hc
  · cases hc
noncomputable def ct38 : CtM := { f := 38, ps := [.v false .io ls29, .v false .ro ls3], rs := [(false, ls3)], pre := fun (x : (List Fld) × Int) => pMarkFieldS x.1 x.2, F := fun (x : (List Fld) × Int) => mMarkFieldS x.1 x.2, W := fun (x : (List Fld) × Int) => wMarkFieldS x.1 x.2 }
theorem law38 : ∀ x : (List Fld) × Int, pMarkFieldS x.1 x.2 → s_laws_markFieldS x.1 x.2 (fun r y => r = mMarkFieldS x.1 x.2 ∧ y = wMarkFieldS x.1 x.2) := fun x h => laws_markFieldS_ok x.1 x.2 h
theorem all38 (m : Nat) (w : World) (hJ : Jn m w) : CtMAt Try.prog ct38 m w :=
  ctm_by ok38 (cs38 m w hJ) Try.func38 (by kernel_rfl) (H := (hint [(2, [.val 1 (.int .i64), .val 5 (.int .i64), .reg 0 66 [.str, .str] true])])) law38 (by kernel_rfl)
noncomputable def E16 : Env := { tt, eqs := [], cts := [], ms := [ct38] }
theorem ok16 : EnvOk Try.prog E16 := ⟨ttOk, by kernel_rfl, rfl, mixOk⟩
theorem cs16 (m : Nat) (w0 : World) (hJ : Jn m w0) : EnvCts Try.prog E16 w0 m := by
  refine ⟨fun c hc => ?_, fun c hc => ?_⟩
  · cases hc
  · rcases List.mem_cons.1 hc with rfl | hc
    · exact fun w hb => all38 m w (Jn_below hJ hb)
    cases hc
noncomputable def ct16 : CtM := { f := 16, ps := [.v true .io ls35, .v false .ro ls3], rs := [(false, ls3)], pre := fun (x : Rsp × Int) => pMarkResponse x.1 x.2, F := fun (x : Rsp × Int) => mMarkResponse x.1 x.2, W := fun (x : Rsp × Int) => wMarkResponse x.1 x.2 }
theorem law16 : ∀ x : Rsp × Int, pMarkResponse x.1 x.2 → s_laws_markResponse x.1 x.2 (fun r y => r = mMarkResponse x.1 x.2 ∧ y = wMarkResponse x.1 x.2) := fun x h => laws_markResponse_ok x.1 x.2 h
theorem all16 (m : Nat) (w : World) (hJ : Jn m w) : CtMAt Try.prog ct16 m w :=
  ctm_by ok16 (cs16 m w hJ) Try.func16 (by kernel_rfl) (H := (hint [])) law16 (by kernel_rfl)
noncomputable def E39 : Env := { tt, eqs := [], cts := [ct69] }
theorem ok39 : EnvOk Try.prog E39 := ⟨ttOk, by kernel_rfl, rfl, mixOk⟩
theorem cs39 (w0 : World) (hJ : J w0) : EnvCts Try.prog E39 w0 w0.heap.size := by
  refine ⟨fun c hc => ?_, fun c hc => ?_⟩
  · rcases List.mem_cons.1 hc with rfl | hc
    · exact fun w hb => all69 w (J_below hJ hb)
    cases hc
  · cases hc
noncomputable def ct39 : Ct := { f := 39, ps := [.v false .ro ls29, .v false .ro ls3], rs := [(false, ls3)], shared := false, pre := fun (x : (List Fld) × Int) => pHeldFieldS x.1 x.2, F := fun (x : (List Fld) × Int) => mHeldFieldS x.1 x.2 }
theorem law39 : ∀ x : (List Fld) × Int, pHeldFieldS x.1 x.2 → s_laws_heldFieldS x.1 x.2 (fun r => r = mHeldFieldS x.1 x.2) := fun x h => laws_heldFieldS_ok x.1 x.2 h
theorem all39 (w : World) (hJ : J w) : CtAt Try.prog ct39 w :=
  ct_by ok39 (cs39 w hJ) Try.func39 (by kernel_rfl) (H := (hint [(2, [.val 1 (.int .i64), .val 5 (.int .i64)])])) law39 (by kernel_rfl)
noncomputable def E40 : Env := { tt, eqs := [], cts := [] }
theorem ok40 : EnvOk Try.prog E40 := ⟨ttOk, by kernel_rfl, rfl, mixOk⟩
theorem cs40 (w0 : World) (hJ : J w0) : EnvCts Try.prog E40 w0 w0.heap.size := by
  refine ⟨fun c hc => ?_, fun c hc => ?_⟩
  · cases hc
  · cases hc
noncomputable def ct40 : Ct := { f := 40, ps := [.v false .ro ls29, .v false .ro ls9, .v false .ro ls9], rs := [(false, ls29)], shared := false, pre := fun (x : (List Fld) × S × S) => pFieldSet x.1 x.2.1 x.2.2, F := fun (x : (List Fld) × S × S) => mFieldSet x.1 x.2.1 x.2.2 }
theorem law40 : ∀ x : (List Fld) × S × S, pFieldSet x.1 x.2.1 x.2.2 → s_spec_FieldSet x.1 x.2.1 x.2.2 (fun r => r = mFieldSet x.1 x.2.1 x.2.2) := fun x h => spec_FieldSet_ok x.1 x.2.1 x.2.2 h
theorem all40 (w : World) (hJ : J w) : CtAt Try.prog ct40 w :=
  ct_by ok40 (cs40 w hJ) Try.func40 (by kernel_rfl) (H := (hint [(4, [.reg 7 66 [.str, .str] true, .val 8 (.bool), .val 9 (.int .i64)])])) law40 (by kernel_rfl)
noncomputable def E18 : Env := { tt, eqs := [], cts := [ct33, ct40] }
theorem ok18 : EnvOk Try.prog E18 := ⟨ttOk, by kernel_rfl, rfl, mixOk⟩
theorem cs18 (w0 : World) (hJ : J w0) : EnvCts Try.prog E18 w0 w0.heap.size := by
  refine ⟨fun c hc => ?_, fun c hc => ?_⟩
  · rcases List.mem_cons.1 hc with rfl | hc
    · exact fun w hb => all33 w (J_below hJ hb)
    rcases List.mem_cons.1 hc with rfl | hc
    · exact fun w hb => all40 w (J_below hJ hb)
    cases hc
  · cases hc
noncomputable def ct18 : Ct := { f := 18, ps := [.v true .ro ls35, .v true .ro ls35], rs := [(true, ls35)], shared := false, pre := fun (x : Rsp × Rsp) => pRefreshed x.1 x.2, F := fun (x : Rsp × Rsp) => mRefreshed x.1 x.2 }
theorem law18 : ∀ x : Rsp × Rsp, pRefreshed x.1 x.2 → s_spec_Refreshed x.1 x.2 (fun r => r = mRefreshed x.1 x.2) := fun x h => spec_Refreshed_ok x.1 x.2 h
theorem all18 (w : World) (hJ : J w) : CtAt Try.prog ct18 w :=
  ct_by ok18 (cs18 w hJ) Try.func18 (by kernel_rfl) (H := (hint [(3, [.reg 5 66 [.str, .str] true, .val 6 (.int .i64)]), (8, [.val 8 (.bool), .val 9 (.int .i64)])])) law18 (by kernel_rfl)
noncomputable def E41 : Env := { tt, eqs := [], cts := [ct65] }
theorem ok41 : EnvOk Try.prog E41 := ⟨ttOk, by kernel_rfl, rfl, mixOk⟩
theorem cs41 (w0 : World) (hJ : J w0) : EnvCts Try.prog E41 w0 w0.heap.size := by
  refine ⟨fun c hc => ?_, fun c hc => ?_⟩
  · rcases List.mem_cons.1 hc with rfl | hc
    · exact fun w hb => all65 w (J_below hJ hb)
    cases hc
  · cases hc
noncomputable def ct41 : Ct := { f := 41, ps := [.v true .ro ls35], rs := [(true, ls35)], shared := false, pre := fun (x : Rsp) => pCloneResponse x, F := fun (x : Rsp) => mCloneResponse x }
theorem law41 : ∀ x : Rsp, pCloneResponse x → s_impl_cloneResponse x (fun r => r = mCloneResponse x) := fun x h => impl_cloneResponse_ok x h
theorem all41 (w : World) (hJ : J w) : CtAt Try.prog ct41 w :=
  ct_by ok41 (cs41 w hJ) Try.func41 (by kernel_rfl) (H := (hint [])) law41 (by kernel_rfl)
noncomputable def E42 : Env := { tt, eqs := [], cts := [ct35] }
theorem ok42 : EnvOk Try.prog E42 := ⟨ttOk, by kernel_rfl, rfl, mixOk⟩
theorem cs42 (w0 : World) (hJ : J w0) : EnvCts Try.prog E42 w0 w0.heap.size := by
  refine ⟨fun c hc => ?_, fun c hc => ?_⟩
  · rcases List.mem_cons.1 hc with rfl | hc
    · exact fun w hb => all35 w (J_below hJ hb)
    cases hc
  · cases hc
noncomputable def ct42 : Ct := { f := 42, ps := [.v false .ro ls29], rs := [(false, ls29)], shared := false, pre := fun (x : (List Fld)) => pWithoutBody x, F := fun (x : (List Fld)) => mWithoutBody x }
theorem law42 : ∀ x : (List Fld), pWithoutBody x → s_impl_withoutBody x (fun r => r = mWithoutBody x) := fun x h => impl_withoutBody_ok x h
theorem all42 (w : World) (hJ : J w) : CtAt Try.prog ct42 w :=
  ct_by ok42 (cs42 w hJ) Try.func42 (by kernel_rfl) (H := (hint [])) law42 (by kernel_rfl)
noncomputable def E43 : Env := { tt, eqs := [], cts := [] }
theorem ok43 : EnvOk Try.prog E43 := ⟨ttOk, by kernel_rfl, rfl, mixOk⟩
theorem cs43 (w0 : World) (hJ : J w0) : EnvCts Try.prog E43 w0 w0.heap.size := by
  refine ⟨fun c hc => ?_, fun c hc => ?_⟩
  · cases hc
  · cases hc
noncomputable def ct43 : Ct := { f := 43, ps := [.v false .ro ls29, .v false .ro ls9, .v false .ro ls9], rs := [(false, ls29)], shared := false, pre := fun (x : (List Fld) × S × S) => pFieldSet x.1 x.2.1 x.2.2, F := fun (x : (List Fld) × S × S) => mFieldSet x.1 x.2.1 x.2.2 }
theorem law43 : ∀ x : (List Fld) × S × S, pFieldSet x.1 x.2.1 x.2.2 → s_impl_FieldSet x.1 x.2.1 x.2.2 (fun r => r = mFieldSet x.1 x.2.1 x.2.2) := fun x h => impl_FieldSet_ok x.1 x.2.1 x.2.2 h
theorem all43 (w : World) (hJ : J w) : CtAt Try.prog ct43 w :=
  ct_by ok43 (cs43 w hJ) Try.func43 (by kernel_rfl) (H := (hint [(4, [.reg 7 66 [.str, .str] true, .val 8 (.bool), .val 14 (.int .i64)])])) law43 (by kernel_rfl)
noncomputable def E19 : Env := { tt, eqs := [], cts := [ct41, ct42, ct36, ct43] }
theorem ok19 : EnvOk Try.prog E19 := ⟨ttOk, by kernel_rfl, rfl, mixOk⟩
theorem cs19 (w0 : World) (hJ : J w0) : EnvCts Try.prog E19 w0 w0.heap.size := by
  refine ⟨fun c hc => ?_, fun c hc => ?_⟩
  · rcases List.mem_cons.1 hc with rfl | hc
    · exact fun w hb => all41 w (J_below hJ hb)
    rcases List.mem_cons.1 hc with rfl | hc
    · exact fun w hb => all42 w (J_below hJ hb)
    rcases List.mem_cons.1 hc with rfl | hc
    · exact fun w hb => all36 w (J_below hJ hb)
    rcases List.mem_cons.1 hc with rfl | hc
    · exact fun w hb => all43 w (J_below hJ hb)
    cases hc
  · cases hc
noncomputable def ct19 : Ct := { f := 19, ps := [.v true .ro ls35, .v true .ro ls35], rs := [(true, ls35)], shared := false, pre := fun (x : Rsp × Rsp) => pRefreshed x.1 x.2, F := fun (x : Rsp × Rsp) => mRefreshed x.1 x.2 }
theorem law19 : ∀ x : Rsp × Rsp, pRefreshed x.1 x.2 → s_impl_Refreshed x.1 x.2 (fun r => r = mRefreshed x.1 x.2) := fun x h => impl_Refreshed_ok x.1 x.2 h
theorem all19 (w : World) (hJ : J w) : CtAt Try.prog ct19 w :=
  ct_by ok19 (cs19 w hJ) Try.func19 (by kernel_rfl) (H := (hint [(3, [.val 16 (.int .i64), .box 5 0 (.int .i64), .breg 5 1 66 [.str, .str], .box 5 2 (.str)])])) law19 (by kernel_rfl)
noncomputable def E20 : Env := { tt, eqs := [], cts := [ct39] }
theorem ok20 : EnvOk Try.prog E20 := ⟨ttOk, by kernel_rfl, rfl, mixOk⟩
theorem cs20 (w0 : World) (hJ : J w0) : EnvCts Try.prog E20 w0 w0.heap.size := by
  refine ⟨fun c hc => ?_, fun c hc => ?_⟩
  · rcases List.mem_cons.1 hc with rfl | hc
    · exact fun w hb => all39 w (J_below hJ hb)
    cases hc
  · cases hc
noncomputable def ct20 : Ct := { f := 20, ps := [.v true .ro ls35, .v false .ro ls3], rs := [(false, ls3)], shared := false, pre := fun (x : Rsp × Int) => pHeldResponse x.1 x.2, F := fun (x : Rsp × Int) => mHeldResponse x.1 x.2 }
theorem law20 : ∀ x : Rsp × Int, pHeldResponse x.1 x.2 → s_laws_heldResponse x.1 x.2 (fun r => r = mHeldResponse x.1 x.2) := fun x h => laws_heldResponse_ok x.1 x.2 h
theorem all20 (w : World) (hJ : J w) : CtAt Try.prog ct20 w :=
  ct_by ok20 (cs20 w hJ) Try.func20 (by kernel_rfl) (H := (hint [])) law20 (by kernel_rfl)
noncomputable def E4 : Env := { tt, eqs := [], cts := [ct8, ct11, ct18, ct19, ct14, ct20], ms := [ct16] }
theorem ok4 : EnvOk Try.prog E4 := ⟨ttOk, by kernel_rfl, rfl, mixOk⟩
theorem cs4 (w0 : World) (hJ : J w0) : EnvCts Try.prog E4 w0 w0.heap.size := by
  refine ⟨fun c hc => ?_, fun c hc => ?_⟩
  · rcases List.mem_cons.1 hc with rfl | hc
    · exact fun w hb => all8 w (J_below hJ hb)
    rcases List.mem_cons.1 hc with rfl | hc
    · exact fun w hb => all11 w (J_below hJ hb)
    rcases List.mem_cons.1 hc with rfl | hc
    · exact fun w hb => all18 w (J_below hJ hb)
    rcases List.mem_cons.1 hc with rfl | hc
    · exact fun w hb => all19 w (J_below hJ hb)
    rcases List.mem_cons.1 hc with rfl | hc
    · exact fun w hb => all14 w (J_below hJ hb)
    rcases List.mem_cons.1 hc with rfl | hc
    · exact fun w hb => all20 w (J_below hJ hb)
    cases hc
  · rcases List.mem_cons.1 hc with rfl | hc
    · exact fun w hb => all16 w0.heap.size w (Jn_of hJ hb)
    cases hc
noncomputable def ct4 : Ct := boolCt 4 [.v true .ro ls26, .v true .ro ls26] (fun (x : Rsp × Rsp) => p_FnExactRefreshed x.1 x.2)
theorem law4 : ∀ x : Rsp × Rsp, p_FnExactRefreshed x.1 x.2 → s_laws_FnExactRefreshed x.1 x.2 (fun r => r = true) := fun x h => laws_FnExactRefreshed_ok x.1 x.2 h
theorem all4 (w : World) (hJ : J w) : CtAt Try.prog ct4 w :=
  ct_by ok4 (cs4 w hJ) Try.func4 (by kernel_rfl) (H := (hint [])) law4 (by kernel_rfl)
end Go.Proofs.Ytiefookbpgdmoaa.ApT
end
