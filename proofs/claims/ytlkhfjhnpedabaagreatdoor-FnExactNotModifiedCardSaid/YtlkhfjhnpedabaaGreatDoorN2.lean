/- A small verified machine for the operations of the given program, and plain laws of what its functions compute; without conditions of its own. Part 3. -/
import Derived.Test.YtlkhfjhnpedabaaGreatDoorN1
import Derived.ChangeArms
import Derived.Deep.Slices
import Derived.DataReads
import Derived.WideShapes
import Derived.Lib.SlTrimSet
import Derived.Lib.Bytealg
import Derived.Lib.IndexMore
import Derived.Lib.Join
import Derived.Lib.ItoaMem
import Derived.Lib.ItoaLen
import Derived.Lib.AppendIntMem
import Derived.Lib.LaidTab
import Derived.Stop.LaidErr
import Derived.Laws.IdiomStrings
import Derived.Lib.AtoiAllMem
import Derived.Lib.AtoiAllCases
import Derived.Lib.Split
set_option linter.unusedVariables false
set_option linter.unusedSimpArgs false
section
/- The small machine is true to the model, twenty-fifth part: code, functions. -/
set_option linter.unusedVariables false
namespace Go.Ev
open Go.RowKit

section
variable {P : Program} {E : Env} {F : Fm} {G : Gh} {σ τ σ' σb σh : St} {a : Act} {w : World} {tmps : Array Value} {H : Nat → List CT}

def InLoop (P : Program) (c : Code) (Q : Exit → Act → World → Prop) (a : Act) (w : World) : Prop := ∀ (b : Frame) (k : List Item) (cs : List Frame),
  ∃ e a' w', Q e a' w' ∧ Arrives P (lone (b.at a (.code c :: .inLoop c :: k)) cs w) b k cs e a' w'
theorem inLoop_round {c : Code} {Q : Exit → Act → World → Prop} (h : c.wp P (Exit.then (InLoop P c Q) Q) a w) : InLoop P c Q a w := by
  intro b k cs
  obtain ⟨e, a₁, w₁, hq, harr⟩ := h b (.inLoop c :: k) cs
  cases e with
  | normal =>
    obtain ⟨e₂, a₂, w₂, hq₂, harr₂⟩ := hq b k cs
    exact ⟨e₂, a₂, w₂, hq₂, .of_steps (Steps.trans harr (.one step_inLoop)) harr₂⟩
  | exit id => exact ⟨_, a₁, w₁, hq, .pass (x := .inLoop c) rfl (fun _ _ => .inl (by simp)) harr⟩
  | goto l => exact ⟨_, a₁, w₁, hq, .pass (x := .inLoop c) rfl (fun _ _ => .inl (by simp)) harr⟩
  | ret => exact ⟨_, a₁, w₁, hq, .pass (x := .inLoop c) rfl (fun _ _ => .inl (by simp)) harr⟩
  | panic ch => exact ⟨_, a₁, w₁, hq, .pass (x := .inLoop c) rfl (fun _ _ => .inl (by simp)) harr⟩
  | outgrown => exact ⟨_, a₁, w₁, hq, .pass (x := .inLoop c) rfl (fun _ _ => .inl (by simp)) harr⟩
theorem wp_of_inLoop {c : Code} {Q : Exit → Act → World → Prop} (h : InLoop P c Q a w) : (Code.loop c).wp P Q a w := fun b k cs =>
  let ⟨e, a', w', hq, harr⟩ := h b k cs
  ⟨e, a', w', hq, .of_steps (.one step_loop) harr⟩

def exOf : Ex → Exit
  | .normal => .normal
  | .exit id => .exit id
  | .ret => .ret

def Carried (F : Fm) (m : Nat) (σb : St) (cs : List CT) (y : cts cs) (a : Act) (w : World) : Prop :=
  ∃ τ G, Rel F G τ a.tmps w ∧ Rel F G σb a.tmps w ∧ BoxSlots σb τ ∧ carry m σb m τ cs = some y ∧ Calm F a

theorem mem_append_left {l m : List Nat} : ∀ {i : Nat}, i ∈ l → i ∈ app l m := by
  induction l with
  | nil => intro i h; cases h
  | cons a l ih =>
    intro i h
    simp only [app]
    rcases List.mem_cons.1 h with rfl | h
    · simp
    · exact List.mem_cons_of_mem _ (ih h)
theorem mem_append_right {l m : List Nat} : ∀ {i : Nat}, i ∈ m → i ∈ app l m := by
  induction l with
  | nil => intro i h; simpa [app] using h
  | cons a l ih => intro i h; simp only [app]; exact List.mem_cons_of_mem _ (ih h)

theorem evalCode_ok (hE : EnvOk P E) (hC : EnvCts P E F.w0 F.n0) : ∀ (c : Code) {n : Nat} {σ : St} {a : Act} {w : World} {K : Ex → Nat → St → Prop} {Q : Exit → Act → World → Prop}, (∀ d ∈ pdsts c, F.free d) → Ok F σ a w → evalCode E H c n σ K →
    (∀ e n' σ' a' w', K e n' σ' → Ok F σ' a' w' → Ext (dsts H c) σ σ' → Q (exOf e) a' w') → c.wp P Q a w := by
  intro c
  induction c with
  | skip =>
    intro n σ a w K Q hX h hs hK
    exact wp_skip (hK .normal n σ a w hs h (Ext.refl _ _))
  | region id ops dr =>
    intro n σ a w K Q hX h hs hK
    cases dr with
    | true =>
      obtain ⟨hb, hs⟩ : (drawOk ops && allB (fun q : Nat × Option Reg => Nat.ble (Nat.succ q.1) (n * 65536)) σ.regs) = true ∧ evalDraw E ops.toList (tk (preLen ops.toList) ops.toList) 0 (n * 65536) σ (fun σ' => evalSeq E (dp ops.toList (preLen ops.toList)) (n * 65536 + 256 * preLen ops.toList) σ' fun σ' => K .normal (n + 1) σ') := by
        have hs' : (bif drawOk ops && allB (fun q : Nat × Option Reg => Nat.ble (Nat.succ q.1) (n * 65536)) σ.regs then evalDraw E ops.toList (tk (preLen ops.toList) ops.toList) 0 (n * 65536) σ (fun σ' => evalSeq E (dp ops.toList (preLen ops.toList)) (n * 65536 + 256 * preLen ops.toList) σ' fun σ' => K .normal (n + 1) σ') else False) := hs
        cases hb : (drawOk ops && allB (fun q : Nat × Option Reg => Nat.ble (Nat.succ q.1) (n * 65536)) σ.regs) with
        | true => rw [hb] at hs'; exact ⟨rfl, hs'⟩
        | false => rw [hb] at hs'; exact hs'.elim
      simp only [Bool.and_eq_true] at hb
      exact draw_ok hE hC hX h hb.1 hb.2 hs fun σ' a' w' hk hok hext => hK .normal (n + 1) σ' a' w' hk hok hext
    | false =>
      exact region_ok hE hC hX h hs fun σ' a' w' hk hok hext => hK .normal (n + 1) σ' a' w' hk hok hext
  | seq c1 c2 ih1 ih2 =>
    intro n σ a w K Q hX h hs hK
    refine wp_seq (ih1 (fun d hd => hX d (mem_append_left hd)) h hs fun e n' σ' a' w' hk hok hext => ?_)
    have he1 : Ext (dsts H (.seq c1 c2)) σ σ' := hext.mono fun i hi => mem_append_left hi
    cases e with
    | normal => exact ih2 (fun d hd => hX d (mem_append_right hd)) hok hk fun e2 n2 σ2 a2 w2 hk2 hok2 hext2 => hK e2 n2 σ2 a2 w2 hk2 hok2 (he1.trans (hext2.mono fun i hi => mem_append_right hi))
    | exit id => exact hK _ n' σ' a' w' hk hok he1
    | ret => exact hK _ n' σ' a' w' hk hok he1
  | cond x c1 c2 ih1 ih2 =>
    intro n σ a w K Q hX h hs hK
    have hs : (match σ.op x with
      | .cell l => brP l (evalCode E H c1 n σ K) (evalCode E H c2 n σ K) (fun p => (p → evalCode E H c1 n σ K) ∧ (¬ p → evalCode E H c2 n σ K))
      | _ => False) := hs
    have l1 : evalCode E H c1 n σ K → c1.wp P Q a w := fun hh => ih1 (fun d hd => hX d (mem_append_left hd)) h hh fun e n' σ' a' w' hk hok hext => hK e n' σ' a' w' hk hok (hext.mono fun i hi => mem_append_left hi)
    have l2 : evalCode E H c2 n σ K → c2.wp P Q a w := fun hh => ih2 (fun d hd => hX d (mem_append_right hd)) h hh fun e n' σ' a' w' hk hok hext => hK e n' σ' a' w' hk hok (hext.mono fun i hi => mem_append_right hi)
    split at hs
    · next l hl =>
      obtain ⟨G, hR, hd⟩ := h
      have hop := op_ok hR x
      rw [hl] at hop
      simp only [slotR] at hop
      obtain ⟨b, hb, hres⟩ := brP_ok (R := fun b => (if b then c1 else c2).wp P Q a w) hop hs (fun _ hT _ => l1 hT) (fun _ hF _ => l2 hF) (fun p hS ⟨d, hv⟩ => by
        refine ⟨@decide p d, hv, ?_⟩
        cases d with
        | isTrue hp => exact l1 (hS.1 hp)
        | isFalse hp => exact l2 (hS.2 hp))
      exact wp_cond hb hres
    · exact hs.elim
  | block id c ih =>
    intro n σ a w K Q hX h hs hK
    refine wp_block (ih hX h hs fun e n' σ' a' w' hk hok hext => ?_)
    cases e with
    | normal => exact hK .normal n' σ' a' w' hk hok hext
    | exit i =>
      simp only at hk
      simp only [exOf, Exit.inBlock]
      cases hb : Nat.beq i id with
      | true =>
        rw [hb] at hk
        rw [if_pos (beq_nat hb)]
        exact hK .normal n' σ' a' w' hk hok hext
      | false =>
        rw [hb] at hk
        rw [if_neg fun e => by rw [e, Nat.beq_refl] at hb; cases hb]
        exact hK (.exit i) n' σ' a' w' hk hok hext
    | ret => exact hK .ret n' σ' a' w' hk hok hext
  | loop c ih =>
    intro n σ a w K Q hX h hs hK
    simp only [evalCode] at hs
    split at hs
    · exact hs.elim
    · next σb hbase =>
      split at hs
      · exact hs.elim
      · next y₀ hy₀ =>
        cases hok : headOk (n * 65536) (H (firstRegion c)) (dsts H (.loop c)) σb with
        | false => rw [hok] at hs; exact hs.elim
        | true =>
          rw [hok] at hs
          simp only [Bool.not_true, cond_false] at hs
          obtain ⟨G, hR, hd⟩ := h
          obtain ⟨hb, hj⟩ := base_ok hbase
          have hnm := hb.named hR
          have hRb : Rel F G σb a.tmps w := hR.weaken (fun i => by
              by_cases hi : i ∈ dsts H (.loop c)
              · exact .inl (hb.hit i hi)
              · exact .inr (hb.miss i hi)) hnm.1 (fun b c' hc' => ⟨hnm.2 b c' hc', hb.boxes b c' hc'⟩) hb.regs hb.len
          have hlen : (H (firstRegion c)).length ≤ 65536 := by
            have := hok
            simp only [headOk, Bool.and_eq_true] at this
            exact Nat.le_of_ble_eq_true this.2
          have hkept : ∀ s ∈ keptSlots (H (firstRegion c)), s ∈ dsts H (.loop c) := fun s hs => by
            have := hok
            simp only [headOk, Bool.and_eq_true] at this
            exact memN_iff.1 (allB_mem (f := fun s => memN s (dsts H (.loop c))) this.1.2 hs)
          have hext0 : Ext (dsts H (.loop c)) σ σb := ext_base hbase
          have hsize : σb.slots.length = a.tmps.size := hRb.nslots
          refine wp_of_inLoop (hs (fun y => ∀ a w, Carried F (n * 65536) σb (H (firstRegion c)) y a w → InLoop P c Q a w) (fun y hy a1 w1 hcar => ?_) a w
            ⟨σ, G, hR, hRb, fun s b hs => by
              by_cases hi : s ∈ dsts H (.loop c)
              · rw [hb.hit s hi] at hs; simp at hs
              · rw [← hb.miss s hi]; exact hs, hy₀, hd⟩)
          obtain ⟨τ, G1, hRτ, hRσ, hB, hc, hd1⟩ := hcar
          split at hy
          · exact hy.elim
          · next σh hh =>
            obtain ⟨G2, hR2⟩ := fill_head hRτ hRσ (fun b => .inl rfl) (fun b => Iff.rfl) (fun r g hg => .inl hg) (Nat.le_refl _) (by omega) hB hc hh
            have hexth : Ext (dsts H (.loop c)) σb σh := ext_head hkept hh
            refine inLoop_round (ih hX ⟨G2, hR2, hd1⟩ hy fun e n' σ' a' w' hk hok2 hext0' => ?_)
            have hext : Ext (dsts H (.loop c)) σh σ' := hext0'.mono fun i hi => mem_append_left hi
            have hall : Ext (dsts H (.loop c)) σ σ' := (hext0.trans hexth).trans hext
            cases e with
            | exit id => exact hK _ n' σ' a' w' hk hok2 hall
            | ret => exact hK _ n' σ' a' w' hk hok2 hall
            | normal =>
              simp only at hk
              split at hk
              · next y' hy' =>
                obtain ⟨G3, hR3, hd3⟩ := hok2
                unfold back at hy'
                obtain ⟨hround, hcarry⟩ := bif_some hy'
                have hsz : σb.slots.length = a'.tmps.size := by rw [← hR3.nslots, hext.ns, hexth.ns]
                obtain ⟨g1, g2⟩ := back_rel hb hnm hj hok hh hext hround hR3 hsz
                exact hk a' w' ⟨σ', G3, hR3, g1, g2, hcarry, hd3⟩
              · exact hk.elim
  | exit id =>
    intro n σ a w K Q hX h hs hK
    exact wp_exit (hK (.exit id) n σ a w hs h (Ext.refl _ _))
  | ret =>
    intro n σ a w K Q hX h hs hK
    exact wp_ret (hK .ret n σ a w hs h (Ext.refl _ _))
  | rangeFunc _ _ _ _ _ _ => intro n σ a w K Q hX h hs hK; exact hs.elim
  | scope _ _ => intro n σ a w K Q hX h hs hK; exact hs.elim
  | label _ => intro n σ a w K Q hX h hs hK; exact hs.elim
  | goto _ => intro n σ a w K Q hX h hs hK; exact hs.elim
  | refuse _ => intro n σ a w K Q hX h hs hK; exact hs.elim
end
end Go.Ev
end

section
/- The small machine is true to the model, twenty-sixth part: results, and a function's contract. -/
set_option linter.unusedVariables false
namespace Go.Ev
open Go.RowKit

section
variable {P : Program} {E : Env} {F : Fm} {G : Gh} {σ τ σ' σ0 : St} {a : Act} {w : World} {tmps : Array Value} {H : Nat → List CT}

theorem shared_ok (h : Rel F G σ tmps w) {S' : Nat → Prop} {col : Nat → Option Nat} (hsu : Suits F G w true [] S' col) : ∀ {ts : List L} {ls : List Leaf} {x : dens ts} {us : List Value} (j : Nat), leafsR (stab F G.c w) G σ w ls us → asAll σ ts ls = some x → outR S' col w true j ts x us
  | [], [], x, us, j, hl, ha => by simpa [outR, leafsR] using hl
  | [], _ :: _, x, us, j, hl, ha => by simp [asAll] at ha
  | _ :: _, [], x, us, j, hl, ha => by simp [asAll] at ha
  | .list e els :: ts, l :: ls, x, us, j, hl, ha => by
    simp only [leafsR] at hl
    obtain ⟨v, vs', rfl, h1, h2⟩ := hl
    simp only [asAll, Option.bind_eq_some_iff, Option.map_eq_some_iff] at ha
    obtain ⟨x1, ha, xr, hr, rfl⟩ := ha
    simp only [outR]
    refine ⟨v, vs', rfl, ?_, by rw [tl_mk]; exact shared_ok h hsu (j + 1) h2 hr⟩
    simp only [if_true]
    rw [hd_mk]
    exact as_in h hsu.1 (hsu.2.1 rfl) h1 ha
  | .int k :: ts, l :: ls, x, us, j, hl, ha | .bool :: ts, l :: ls, x, us, j, hl, ha | .str :: ts, l :: ls, x, us, j, hl, ha => by
    simp only [leafsR] at hl
    obtain ⟨v, vs', rfl, h1, h2⟩ := hl
    simp only [asAll, Option.bind_eq_some_iff, Option.map_eq_some_iff] at ha
    obtain ⟨x1, ha, xr, hr, rfl⟩ := ha
    simp only [outR]
    refine ⟨v, vs', rfl, ?_, by rw [tl_mk]; exact shared_ok h hsu j h2 hr⟩
    rw [hd_mk]
    exact repL_flat rfl (as_now h h1 ha)

def resRun (tmps : Array Value) : ResultVar → Sem Value
  | .tmp t => pure (tmps.getD t undef)
  | .cell a t => do loadVar t (← asAddr (tmps.getD a undef))
theorem resOf_ok (hE : EnvOk P E) (h : Rel F G σ tmps w) {agg : Bool} {rv : ResultVar} {ls : List Leaf} (hr : resOf E σ agg rv = some ls) : ∃ v cs, (resRun tmps rv).run P w = .ok v w ∧ slotV agg cs v ∧ leafsR (stab F G.c w) G σ w ls cs := by
  cases rv with
  | tmp t =>
    simp only [resOf] at hr
    have hs := h.slots t
    split at hr
    · next l hl =>
      rw [hl] at hs
      simp only [slotR] at hs
      cases agg with
      | true => cases hr
      | false =>
        injection hr with hr
        subst hr
        exact ⟨tmps.getD t undef, [tmps.getD t undef], by simp [resRun], by simp [slotV], by simp only [leafsR]; exact ⟨_, [], rfl, hs, rfl⟩⟩
    · next ls' hl =>
      rw [hl] at hs
      simp only [slotR] at hs
      obtain ⟨cs, hv, hc, _⟩ := hs
      cases agg with
      | false => cases hr
      | true =>
        injection hr with hr
        subst hr
        exact ⟨tmps.getD t undef, cs, by simp [resRun], by rw [hv]; simp [slotV], hc⟩
    · cases hr
  | cell ad t =>
    simp only [resOf] at hr
    have hs := h.slots ad
    split at hr
    · next b hb =>
      rw [hb] at hs
      simp only [slotR, leafR] at hs
      obtain ⟨_, hv⟩ := hs
      obtain ⟨i, hi, hr⟩ := Option.bind_eq_some_iff.1 hr
      obtain ⟨hag, hr⟩ := bif_some hr
      obtain ⟨c, hc, hr⟩ := Option.bind_eq_some_iff.1 hr
      obtain ⟨rfl, hlen⟩ := exact_eq hr
      obtain ⟨t', cur, b1, b2, b3, b4⟩ := h.boxes b _ hc
      obtain ⟨ti, ht1, ht2, hk⟩ := ti_agg (hE.ti hi)
      have hcl : cur.toList.length = i.ls.length := by rw [leafsR_length b3, hlen]
      have hcells : ∀ j u, cur.toList[j]? = some u → w.cell? ((⟨G.bb b, 0, none⟩ : Addr).add j) = some u := fun j u hu => by
        rw [addr_add, cell_row b1]; simpa using hu
      rcases hk with ⟨hst, fs, hu⟩ | ⟨hst, hl1, d, hu, hn1, hn2⟩
      · rw [hst] at hag
        have hag : agg = true := hag
        subst hag
        refine ⟨.agg cur, cur.toList, ?_, by simp [slotV], b3⟩
        have hlc := run_loadCells_list (P := P) w _ cur.toList hcells
        rw [hcl, ← ht2] at hlc
        simp [resRun, hv, asAddr, loadVar, isAgg, run_underlying hu, sizeOf, typeInfo, ht1, hlc]
      · rw [hst] at hag
        have hag : agg = false := by simpa using hag
        subst hag
        obtain ⟨u, hu1⟩ := List.length_eq_one_iff.1 (hcl.trans hl1)
        refine ⟨u, [u], ?_, by simp [slotV], by rw [← hu1]; exact b3⟩
        have hcell : w.cell? ⟨G.bb b, 0, none⟩ = some u := by
          have := hcells 0 u (by rw [hu1]; rfl)
          simpa [Addr.add] using this
        have hagg : (isAgg t).run P w = .ok false w := by
          simp only [isAgg, Sem.run_bind, run_underlying hu, Result.andThen_ok]
          cases d <;> first | rfl | exact absurd rfl (hn1 _) | exact absurd rfl (hn2 _ _)
        simp [resRun, hv, asAddr, loadVar, hagg, hcell]
    · cases hr

theorem out_ok (hE : EnvOk P E) (h : Rel F G σ0 tmps w) {sh : Bool} : ∀ {rs : List (Bool × List L)} {vs : List ResultVar} {x : caps (snds rs)} {σ σ' : St} (j : Nat), (∀ r g, σ.reg? r = some g → σ0.reg? r = some g) → Rel F G σ tmps w → outRes E sh σ rs vs = some (x, σ') →
    ∃ us L, (vs.mapM (resRun tmps)).run P w = .ok us w ∧ Moved σ σ' L ∧ (sh = true → L = []) ∧ ∀ S' col, Suits F G w sh L S' col → resR S' col w sh rs x j us
  | [], [], x, σ, σ', j, hs, hR, ho => by
    simp only [outRes, Option.some.injEq] at ho
    obtain ⟨_, rfl⟩ := Prod.mk.inj ho
    exact ⟨[], [], by simp, Moved.refl, fun _ => rfl, fun S' col _ => by simp [resR]⟩
  | [], _ :: _, x, σ, σ', j, hs, hR, ho => by simp [outRes] at ho
  | _ :: _, [], x, σ, σ', j, hs, hR, ho => by simp [outRes] at ho
  | p :: rs, rv :: vs, x, σ, σ', j, hs, hR, ho => by
    simp only [outRes, Option.bind_eq_some_iff, Option.map_eq_some_iff] at ho
    obtain ⟨ls, hls, x1, ha, σ1, hm, ⟨xr, σ2⟩, hrest, hx⟩ := ho
    simp only [Prod.mk.injEq] at hx
    obtain ⟨rfl, rfl⟩ := hx
    obtain ⟨v, cs, hrun, hsl, hleafs⟩ := resOf_ok hE hR hls
    obtain ⟨L1, hM1, hsh1, hout1⟩ : ∃ L, Moved σ σ1 L ∧ (sh = true → L = []) ∧ ∀ S' col, Suits F G w sh L S' col → outR S' col w sh j p.2 x1 cs := by
      cases sh with
      | true =>
        have : σ = σ1 := by simpa using hm
        subst this
        exact ⟨[], Moved.refl, fun _ => rfl, fun S' col hsu => shared_ok hR hsu j hleafs ha⟩
      | false =>
        obtain ⟨L, hL, _, hout⟩ := moveAll_ok hR j hleafs ha (fun _ _ h => h) (by simpa using hm)
        exact ⟨L, hL, by simp, hout⟩
    have hR1 : Rel F G σ1 tmps w := by
      cases sh with
      | true =>
        have : σ = σ1 := by simpa using hm
        subst this
        exact hR
      | false => exact (moveAll_rel hR (by simpa using hm)).1
    obtain ⟨us, L2, hrun2, hM2, hsh2, hout2⟩ := out_ok hE h (j + 16) (fun r g hg => hs r g (hM1.sub r g hg)) hR1 hrest
    refine ⟨v :: us, L1 ++ L2, ?_, hM1.trans hM2, fun hh => by rw [hsh1 hh, hsh2 hh]; rfl, fun S' col hsu => ?_⟩
    · simp [List.mapM_cons, hrun, hrun2]
    · simp only [resR]
      exact ⟨v, us, cs, rfl, by rw [chd_cmk]; exact hout1 S' col hsu.left, .inr hsl, by rw [ctl_cmk]; exact hout2 S' col hsu.right⟩
end
end Go.Ev
end

section
/- The small machine is true to the model, last part: a function's contract out of what it comes to. -/
set_option linter.unusedVariables false
namespace Go.Ev
open Go.RowKit

section
variable {P : Program} {E : Env} {F : Fm} {G : Gh} {σ : St} {a : Act} {w : World} {tmps : Array Value} {H : Nat → List CT} {S T : Nat → Prop}

theorem ro_sub (hST : ∀ b, S b → T b) {p : Col} {e : TypeId} {sz n : Nat} {v : Value} {cs : List Value} (h : roRow w S p e sz n v cs) : roRow w T p e sz n v cs := ro_mono (fun b hb => ⟨hST b hb, rfl⟩) h
theorem enter_caps (hST : ∀ b, S b → T b) : ∀ {cs : List (List L)} {x : caps cs} {vs : List Value}, capsR S w cs x vs → leafsR T G σ w (capSlots cs x) vs
  | [], _, _, h => by simpa [capsR, capSlots, leafsR] using h
  | t :: ts, x, _, h => by
    simp only [capsR] at h
    obtain ⟨v, vs', rfl, ⟨ad, cs, hv, hs, hc, hr⟩, h2⟩ := h
    simp only [capSlots, leafsR, leafR]
    exact ⟨v, vs', rfl, ⟨ad, cs, by rw [addr_zero]; exact hv, hST _ hs, hc, repLs_map (fun _ _ _ _ _ _ _ => ro_sub hST) hr⟩, enter_caps hST h2⟩
theorem leafs_length : ∀ {ls : List L} (x : dens ls), (leafs ls x).length = ls.length
  | [], _ => rfl
  | t :: ts, x => by simp [leafs, leafs_length (tl x)]
theorem enter_ok (hST : ∀ b, S b → T b) : ∀ {ps : List PT} {x : pts ps} {vs : List Value}, argsR S w ps x vs → slotsR T G σ w (enter ps x) vs
  | [], _, _, h => by simpa [argsR, enter, slotsR] using h
  | .v agg m ts :: ps, x, _, h => by
    simp only [argsR] at h
    obtain ⟨v, vs', rfl, ⟨cs, hr, hsl⟩, h2⟩ := h
    have hr' : repLs (roRow w T) ts [] 0 0 (phd x) cs := repLs_map (fun _ _ _ _ _ _ _ => ro_sub hST) hr
    have hl := leafsR_of_rep (G := G) (σ := σ) hr'
    simp only [enter, slotsR]
    refine ⟨v, vs', rfl, ?_, enter_ok hST h2⟩
    cases agg with
    | true =>
      simp only [slotV, if_true] at hsl
      simp only [cellOrAgg, cond_true, slotR]
      exact ⟨cs, hsl, hl, repLs_one roRow_one hr'⟩
    | false =>
      simp only [slotV, Bool.false_eq_true, if_false] at hsl
      subst hsl
      have h1 : (leafs ts (phd (t := .v false m ts) x)).length = 1 := (leafs_length (ls := ts) (phd (t := .v false m ts) x)).trans (by simpa using (repLs_length hr').symm)
      obtain ⟨l, hl1⟩ := List.length_eq_one_iff.1 h1
      simp only [cellOrAgg, cond_false]
      have hl1' : leafs ts (phd (t := .v false m ts) x) = [l] := hl1
      rw [hl1']
      simp only [slotR]
      rw [hl1] at hl
      simp only [leafsR] at hl
      obtain ⟨v', vs'', e, h3, _⟩ := hl
      have : v = v' := by simpa using (List.cons.inj e).1
      rw [this]; exact h3
  | .p io ts :: ps, x, _, h => by
    simp only [argsR] at h
    obtain ⟨v, vs', rfl, ⟨ad, cs, hv, hs, hc, hr⟩, h2⟩ := h
    simp only [enter, slotsR, slotR, leafR]
    exact ⟨v, vs', rfl, ⟨ad, cs, by rw [addr_zero]; exact hv, hST _ hs, hc, repLs_map (fun _ _ _ _ _ _ _ => ro_sub hST) hr⟩, enter_ok hST h2⟩
  | .c f cs :: ps, x, _, h => by
    simp only [argsR] at h
    obtain ⟨v, vs', rfl, ⟨cvs, hv, hc⟩, h2⟩ := h
    simp only [enter, slotsR, slotR, leafR]
    exact ⟨v, vs', rfl, ⟨cvs, hv, enter_caps hST hc⟩, enter_ok hST h2⟩

theorem pad_length {α : Type} (d : α) : ∀ (n : Nat) (l : List α), (pad d n l).length = max n l.length
  | 0, l => by simp [pad]
  | n + 1, [] => by simp [pad, pad_length d n]
  | n + 1, b :: l => by simp [pad, pad_length d n]
theorem pad_nth {α : Type} (d : α) : ∀ (n : Nat) (l : List α) (i : Nat), nth d (pad d n l) i = nth d l i
  | 0, l, i => rfl
  | n + 1, [], 0 => rfl
  | n + 1, [], i + 1 => by
    have := pad_nth d n [] i
    simp only [pad, nth]
    exact this
  | n + 1, b :: l, 0 => rfl
  | n + 1, b :: l, i + 1 => by simp only [pad, nth]; exact pad_nth d n l i
theorem slotsR_get : ∀ {ss : List Slot} {vs : List Value}, slotsR T G σ w ss vs → ∀ i, slotR T G σ w (nth (.cell .junk) ss i) (vs.getD i undef)
  | [], _, _, i => by simp only [nth, slotR, leafR]
  | s :: ss, _, h, 0 => by
    simp only [slotsR] at h
    obtain ⟨v, vs', rfl, h1, _⟩ := h
    exact h1
  | s :: ss, _, h, i + 1 => by
    simp only [slotsR] at h
    obtain ⟨v, vs', rfl, _, h2⟩ := h
    simpa [nth] using slotsR_get h2 i

theorem ct_ok (hE : EnvOk P E) (hC : EnvCts P E w w.heap.size) {fn : Func} {c : Ct} (hf : P.funcs[c.f]? = some fn) (hname : (fn.name == "runtime.NumGoroutine") = false)
    (hev : ∀ x, c.pre x → evalFn E H fn c.ps c.rs c.shared x fun r => r = c.F x) : CtAt P c w := by
  obtain ⟨f, ps, rs, shared, pre, Fn⟩ := c
  intro vals x S hS hargs hpre
  have h0 := hev x hpre
  unfold evalFn at h0
  obtain ⟨body, hbody⟩ : ∃ b, fn.body = some b := by
    cases hb : fn.body with
    | none => rw [hb] at h0; exact h0.elim
    | some b => exact ⟨b, rfl⟩
  refine ⟨⟨fn, hf, hname, by rw [hbody]; rfl⟩, ?_⟩
  rw [hbody] at h0
  simp only at h0
  refine calls_of_wp hf hbody ?_
  -- the frame
  let F : Fm := { w0 := w, S := S }
  let G : Gh := ⟨fun _ => none, fun _ => 0, fun _ => undef⟩
  have hent := enter_ok (G := G) (σ := { slots := pad (.cell .junk) fn.ntmps (enter ps x), boxes := [], regs := [] }) (T := stab F G.c w) (fun b hb => .inl hb) hargs
  have hlen : vals.size = (enter ps x).length := by
    have := slotsR_length hent
    simpa using this
  have hR : Rel F G { slots := pad (.cell .junk) fn.ntmps (enter ps x), boxes := [], regs := [] } (vals ++ Array.replicate (fn.ntmps - vals.size) undef) w := {
    below := BelowO.refl _ _
    hS := ⟨Nat.le_refl _, fun b hb => hb.elim, fun b hb => ⟨hS b hb, fun h => h⟩⟩
    col := fun b hb => absurd rfl hb
    boxes := fun b c hc => by cases hc
    regs := fun r g hg => by cases hg
    slots := fun i => by
      rw [pad_nth]
      have := slotsR_get hent i
      have e : (vals ++ Array.replicate (fn.ntmps - vals.size) undef).getD i undef = vals.toList.getD i undef := by
        rw [Array.getD_eq_getD_getElem?, List.getD_eq_getElem?_getD, Array.getElem?_append, Array.getElem?_toList]
        split
        · rfl
        · next hi =>
          have : vals[i]? = none := Array.getElem?_eq_none (by omega)
          rw [this, Array.getElem?_replicate]
          split <;> rfl
      rw [e]; exact this
    nslots := by
      rw [pad_length, ← hlen]
      simp only [Array.size_append, Array.size_replicate]
      omega }
  refine evalCode_ok (F := F) hE hC body (fun d _ p hp => by cases hp) ⟨G, hR, rfl, fun p hp => by cases hp⟩ h0 fun e n' σ' a' w' hk hok hext => ?_
  obtain ⟨G', hR', hd⟩ := hok
  have hend : (match outRes E shared σ' rs fn.results.toList with
      | none => False
      | some (r, _) => r = Fn x) → a'.defers = [] ∧ ∃ v, (results fn a'.tmps).run P w' = .ok v w' ∧ (fun e w' => ∃ vs v col, e = Ending.returned v ∧ Below w.heap.size w w' ∧ retV vs v ∧ (∀ b, col b ≠ none → w.heap.size ≤ b ∧ b < w'.heap.size) ∧
        resR (fun b => S b ∨ (w.heap.size ≤ b ∧ b < w'.heap.size ∧ col b = none)) col w' shared rs (Fn x) 0 vs) (Ending.returned v) w' := fun hm => by
    split at hm
    · exact hm.elim
    · next r τ hout =>
      subst hm
      obtain ⟨us, L, hrun, hM, hsh, hres⟩ := out_ok hE hR' 0 (fun _ _ h => h) hR' hout
      let col : Nat → Option Nat := fun b => match G'.c b with
        | some [(r, 0)] => look L r
        | _ => none
      have hcol : ∀ b, col b ≠ none → G'.c b ≠ none := fun b hb hc => by
        simp only [col, hc] at hb
        exact hb rfl
      refine ⟨hd.1, (if h : us.length = 1 then us[0] else .tuple us.toArray), ?_, us, _, col, rfl, hR'.below.below, ?_, fun b hb => ⟨(hR'.col b (hcol b hb)).1.resolve_right fun h => h, (hR'.col b (hcol b hb)).2⟩, hres _ col ⟨fun b hb => ?_, fun hs b hb => ?_, fun p hp b hb => ?_⟩⟩
      · have e : fn.results.mapM (resRun a'.tmps) = List.toArray <$> fn.results.toList.mapM (resRun a'.tmps) := Array.mapM_eq_mapM_toList
        have hr2 : (fn.results.mapM (resRun a'.tmps)).run P w' = .ok us.toArray w' := by
          rw [e]
          simp [hrun]
        have key : ∀ f : ResultVar → Sem Value, (∀ rv, f rv = resRun a'.tmps rv) → (fn.results.mapM f).run P w' = .ok us.toArray w' := fun f hf => by
          rw [show f = resRun a'.tmps from funext hf]; exact hr2
        unfold results
        rw [Sem.run_bind, key _ (fun rv => by cases rv <;> rfl)]
        simp only [Result.andThen_ok, Sem.run_pure, List.size_toArray]
        by_cases h1 : us.length = 1 <;> simp [h1]
      · unfold retV
        by_cases h1 : us.length = 1
        · left
          rw [dif_pos h1]
          obtain ⟨u, rfl⟩ := List.length_eq_one_iff.1 h1
          rfl
        · right
          rw [dif_neg h1]
          exact ⟨h1, rfl⟩
      · rcases hb with hb | hb
        · exact .inl hb
        · refine .inr ⟨hb.1.resolve_right fun h => h, hb.2.1, ?_⟩
          simp only [col, hb.2.2]
      · have h1 := hR'.col b hb
        refine .inr ⟨h1.1.resolve_right fun h => h, h1.2, ?_⟩
        simp only [col, hsh hs]
        split <;> rfl
      · simp only [col, hb]
        exact look_pairs hM.once hp
  cases e with
  | normal => exact hend hk
  | exit id => exact hk.elim
  | ret => exact hend hk
end
end Go.Ev
end

section
/- The small machine is true to the model: the contract of a function that writes the rows that it is handed. -/
set_option linter.unusedVariables false
namespace Go.Ev
open Go.RowKit

section
variable {P : Program} {E : Env} {F : Fm} {G G' : Gh} {σ σ' : St} {a : Act} {w w' : World} {tmps : Array Value} {H : Nat → List CT} {S T : Nat → Prop}

end
end Go.Ev
end

section
/- What is read as data stands in memory as typed values: by a check on the type table alone. -/
set_option linter.unusedVariables false
namespace Go.Ev
open Go.RowKit

mutual
def wf : (t : L) → t.den → Prop
  | .int k, x => (Lit.int k x).wf = true
  | .bool, _ => True
  | .str, s => ByteArray.size s ≤ maxLen
  | .list _ ls, xs => List.length (α := L.dens ls) xs ≤ maxLen ∧ ∀ (i : Nat) (x : L.dens ls), gt (α := L.dens ls) xs i = some x → wfs ls x
def wfs : (ls : List L) → L.dens ls → Prop
  | [], _ => True
  | [t], x => wf t x
  | t :: t' :: ts, x => wf t x.1 ∧ wfs (t' :: ts) x.2
end
theorem wfs_cons {t : L} {ts : List L} {x : dens (t :: ts)} : wfs (t :: ts) x ↔ wf t (hd x) ∧ wfs ts (tl x) := by
  cases ts with
  | nil => simp [wfs, hd]
  | cons t' ts => simp [wfs, hd, tl]
def dapp : {l m : List L} → dens l → dens m → dens (l ++ m)
  | [], _, _, y => y
  | t :: ts, _, x, y => mk (hd x) (dapp (tl x) y)
theorem repLs_app {R : Rw} : ∀ {l m : List L} {p : Col} {i o : Nat} {x : dens l} {y : dens m} {cs ds : List Value}, repLs R l p i o x cs → repLs R m p i (o + l.length) y ds → repLs R (l ++ m) p i o (dapp x y) (cs ++ ds)
  | [], m, p, i, o, x, y, cs, ds, h, h' => by
    simp only [repLs] at h
    subst h
    simpa [dapp] using h'
  | t :: ts, m, p, i, o, x, y, cs, ds, h, h' => by
    obtain ⟨v, cs', rfl, h1, h2⟩ := repLs_cons.1 h
    refine repLs_cons.2 ⟨v, cs' ++ ds, rfl, ?_, ?_⟩
    · simp only [dapp, hd_mk]; exact h1
    · simp only [dapp, tl_mk]
      exact repLs_app h2 (by rwa [List.length_cons, show o + (ts.length + 1) = o + 1 + ts.length by omega] at h')
theorem wfs_app : ∀ {l m : List L} {x : dens l} {y : dens m}, wfs l x → wfs m y → wfs (l ++ m) (dapp x y)
  | [], _, _, _, _, h => h
  | t :: ts, m, x, y, h, h' => by
    obtain ⟨h1, h2⟩ := wfs_cons.1 h
    refine wfs_cons.2 ⟨?_, ?_⟩
    · simp only [dapp, hd_mk]; exact h1
    · simp only [dapp, tl_mk]; exact wfs_app h2 h'

def fieldsOp (P : Program) (f : TypeId → List L → Bool) : List Field → Nat → List L → Bool
  | [], _, [] => true
  | [], _, _ :: _ => false
  | fd :: fs, o, ls => Nat.beq fd.offset o && f fd.type (ls.take (P.cellsOf fd.type)) && fieldsOp P f fs (o + (ls.take (P.cellsOf fd.type)).length) (ls.drop (P.cellsOf fd.type))
def opB (P : Program) : Nat → TypeId → List L → Bool
  | 0, _, _ => false
  | n + 1, t, ls => Nat.beq (P.cellsOf t) ls.length && (match P.underlying t with
    | some (.int k) => (match ls with
      | [.int k'] => kEq k k'
      | _ => false)
    | some .bool => (match ls with
      | [.bool] => true
      | _ => false)
    | some .string => (match ls with
      | [.str] => true
      | _ => false)
    | some (.slice e) => (match ls with
      | [.list e' ls'] => Nat.beq e e' && opB P n e ls'
      | _ => false)
    | some (.struct fs) => fieldsOp P (opB P n) fs.toList 0 ls
    | _ => false)

structure Opn (P : Program) (t : TypeId) (ls : List L) : Prop where
  size : P.cellsOf t = ls.length
  op : ∀ {H : Type} {enc : TypeId × Value → H} {w : World} {base : Nat} {spare : Nat → Bool} {held : Bool} (fuel : Nat) (cs : List Value) (x : DataW H × List MemPlace),
    DataW.trod enc P w base spare held fuel t cs = some x → ∃ y : dens ls, repLs (roRow w (now w)) ls [] 0 0 y cs ∧ wfs ls y
theorem list_choose {α : Type} {n : Nat} {q : Nat → α → Prop} (h : ∀ i, i < n → ∃ y, q i y) : ∃ ys : List α, ys.length = n ∧ ∀ i y, ys[i]? = some y → q i y := by
  induction n with
  | zero => exact ⟨[], rfl, fun i y hy => by simp at hy⟩
  | succ n ih =>
    obtain ⟨ys, hl, hys⟩ := ih (fun i hi => h i (by omega))
    obtain ⟨y, hy⟩ := h n (by omega)
    refine ⟨ys ++ [y], by simp [hl], fun i z hz => ?_⟩
    by_cases hi : i < ys.length
    · rw [List.getElem?_append_left hi] at hz
      exact hys i z hz
    · rw [List.getElem?_append_right (by omega)] at hz
      by_cases he : i - ys.length = 0
      · rw [he] at hz
        simp at hz
        obtain rfl : i = n := by omega
        exact hz ▸ hy
      · obtain ⟨m, hm⟩ : ∃ m, i - ys.length = m + 1 := ⟨i - ys.length - 1, by omega⟩
        rw [hm] at hz
        simp at hz
theorem cell_now {w : World} {a : Addr} {u : Value} (h : w.cell? a = some u) : now w a.block := by
  unfold World.cell? at h
  unfold now
  rcases Nat.lt_or_ge a.block w.heap.size with h1 | h1
  · exact h1
  · rw [Array.getElem?_eq_none h1] at h
    simp at h

theorem fields_ok {P : Program} {f : TypeId → List L → Bool} (hf : ∀ t ls, f t ls = true → Opn P t ls) : ∀ {fs : List Field} {o : Nat} {ls : List L}, fieldsOp P f fs o ls = true →
    ∀ {H : Type} {enc : TypeId × Value → H} {w : World} {base : Nat} {spare : Nat → Bool} {held : Bool} (fuel : Nat) (cs : List Value), cs.length = o + ls.length →
    (∀ (i : Nat) (f : Field), fs[i]? = some f → ∃ z : DataW H × List MemPlace, DataW.trod enc P w base spare held fuel f.type ((cs.drop f.offset).take (P.cellsOf f.type)) = some z) → ∃ y : dens ls, repLs (roRow w (now w)) ls [] 0 o y (cs.drop o) ∧ wfs ls y
  | [], o, [], _ => by
    intro fuel cs hl hz
    exact ⟨(), by simp only [repLs]; apply List.eq_nil_of_length_eq_zero; rw [List.length_drop, hl]; simp, trivial⟩
  | [], o, _ :: _, h => by simp [fieldsOp] at h
  | fd :: fs, o, ls, h => by
    intro fuel cs hl hz
    rename_i H enc w base spare held
    simp only [fieldsOp, Bool.and_eq_true] at h
    obtain ⟨⟨h1, h2⟩, h3⟩ := h
    have ho := beq_nat h1
    have hO := hf _ _ h2
    obtain ⟨z, hz0⟩ := hz 0 fd rfl
    have hlen : (ls.take (P.cellsOf fd.type)).length + (ls.drop (P.cellsOf fd.type)).length = ls.length := by rw [← List.length_append, List.take_append_drop]
    rw [ho] at hz0
    obtain ⟨y, hy, hF⟩ := hO.op _ _ _ hz0
    obtain ⟨y', hy', hF'⟩ := fields_ok hf h3 fuel cs (by omega) (fun i g hg => hz (i + 1) g (by simpa using hg))
    have e : ls.take (P.cellsOf fd.type) ++ ls.drop (P.cellsOf fd.type) = ls := List.take_append_drop _ _
    have hcs : cs.drop o = (cs.drop o).take (P.cellsOf fd.type) ++ cs.drop (o + (ls.take (P.cellsOf fd.type)).length) := by
      rw [← hO.size, ← List.drop_drop, List.take_append_drop]
    have hall : ∃ y : dens (ls.take (P.cellsOf fd.type) ++ ls.drop (P.cellsOf fd.type)), repLs (roRow w (now w)) (ls.take (P.cellsOf fd.type) ++ ls.drop (P.cellsOf fd.type)) [] 0 o y (cs.drop o) ∧ wfs _ y :=
      ⟨dapp y y', by rw [hcs]; exact repLs_app (ros_off hy) hy', wfs_app hF hF'⟩
    rwa [e] at hall

theorem opn_of {P : Program} : ∀ {n : Nat} {t : TypeId} {ls : List L}, opB P n t ls = true → Opn P t ls
  | 0, _, _, h => by simp [opB] at h
  | n + 1, t, ls, h => by
    simp only [opB, Bool.and_eq_true] at h
    obtain ⟨hsz, h⟩ := h
    have hsz := beq_nat hsz
    split at h
    · next k hu =>
      split at h
      · next k' =>
        have e := kEq_eq h
        subst e
        refine ⟨hsz, fun fuel cs x hx => ?_⟩
        obtain ⟨m, rfl, _, hw⟩ := DataW.trod_int hu hx
        exact ⟨m, by simp only [repLs, repL]; exact ⟨_, rfl, rfl⟩, by simpa only [wfs, wf] using hw⟩
      · cases h
    · next hu =>
      split at h
      · refine ⟨hsz, fun fuel cs x hx => ?_⟩
        obtain ⟨m, rfl, _⟩ := DataW.trod_bool hu hx
        exact ⟨m, by simp only [repLs, repL]; exact ⟨_, rfl, rfl⟩, by simp only [wfs, wf]⟩
      · cases h
    · next hu =>
      split at h
      · refine ⟨hsz, fun fuel cs x hx => ?_⟩
        obtain ⟨m, rfl, _, hs⟩ := DataW.trod_string hu hx
        exact ⟨m, by simp only [repLs, repL]; exact ⟨_, rfl, rfl⟩, by simpa only [wfs, wf] using hs⟩
      · cases h
    · next e hu =>
      split at h
      · next e' els _ =>
        simp only [Bool.and_eq_true] at h
        have e1 := beq_nat h.1
        subst e1
        have he := opn_of h.2
        refine ⟨hsz, fun {H enc w base spare held} fuel cs x hx => ?_⟩
        rcases Deep.open_slice hu hx with ⟨rfl, _⟩ | ⟨a, len, cap, m, n', D, Pl, rfl, hb, hl, hm, hmm, _, hel⟩
        · exact ⟨([] : List (dens els)), by simp only [repLs]; exact ⟨_, rfl, nil_rep ro_nil⟩, by simp [wfs, wf, gt]⟩
        · have hle : len ≤ m := by rw [hmm]; split <;> omega
          obtain ⟨ys, hlen, hys⟩ := list_choose (n := len) (q := fun i (y : dens els) => wfs els y ∧ ∃ cs', w.cells? base (a.add (i * P.cellsOf e)) (P.cellsOf e) = some cs' ∧ repLs (roRow w (now w)) els [] 0 0 y cs') (fun i hi => by
            obtain ⟨cs', h1, h2⟩ := hel i (by omega)
            obtain ⟨y, hy, hF⟩ := he.op _ _ _ h2
            exact ⟨y, hF, cs', h1, hy⟩)
          subst hlen
          have hcell : ∀ i y, ys[i]? = some y → ∃ cs', cs'.length = els.length ∧ repLs (roRow w (now w)) els [] 0 0 y cs' ∧ ∀ j u, cs'[j]? = some u → w.cell? (a.add (i * els.length + j)) = some u := fun i y hy => by
            obtain ⟨_, cs', h1, h2⟩ := hys i y hy
            obtain ⟨_, h4⟩ := World.cells?_some h1
            have h3 := repLs_length h2
            refine ⟨cs', h3, h2, fun j u hu2 => ?_⟩
            have hj : j < cs'.length := (List.getElem?_eq_some_iff.mp hu2).1
            rw [← he.size, ← Deep.add_add]
            rw [h4.2 j (by rw [he.size]; omega), hu2]
          -- all cells
          obtain ⟨all, hal, hac⟩ := list_choose (n := ys.length * els.length) (q := fun j (u : Value) => w.cell? (a.add j) = some u) (fun j hj => by
            have hp : 0 < els.length := by
              rcases Nat.eq_zero_or_pos els.length with h0 | h0
              · rw [h0] at hj; simp at hj
              · exact h0
            have hd : j / els.length < ys.length := Nat.div_lt_of_lt_mul (by rw [Nat.mul_comm]; exact hj)
            obtain ⟨cs', c1, _, c3⟩ := hcell (j / els.length) _ (List.getElem?_eq_getElem hd)
            have hmod : j % els.length < cs'.length := by rw [c1]; exact Nat.mod_lt _ hp
            refine ⟨cs'[j % els.length], ?_⟩
            have := c3 (j % els.length) _ (List.getElem?_eq_getElem hmod)
            rwa [show j / els.length * els.length + j % els.length = j from by rw [Nat.mul_comm]; exact Nat.div_add_mod j _] at this)
          refine ⟨ys, ?_, ?_⟩
          · simp only [repLs, repL]
            refine ⟨_, rfl, all, ⟨some a, cap, rfl, hl, fun hpos => ⟨a, rfl, ?_, fun j u hu2 => hac j u hu2⟩⟩, hal, fun i y hy => ?_⟩
            · have h0 : 0 < all.length := by omega
              have := cell_now (hac 0 _ (List.getElem?_eq_getElem h0))
              rwa [block_of_add] at this
            · obtain ⟨cs', c1, c2, c3⟩ := hcell i y hy
              have hi := (List.getElem?_eq_some_iff.1 (show ys[i]? = some y from hy)).1
              have hseg : (all.drop (i * els.length)).take els.length = cs' := by
                apply List.ext_getElem?
                intro j
                rw [List.getElem?_take]
                split
                · next hj =>
                  have hbnd : i * els.length + j < all.length := by
                    rw [hal]
                    have := Nat.mul_le_mul_right els.length hi
                    rw [Nat.succ_mul] at this
                    omega
                  have hj' : j < cs'.length := by omega
                  rw [List.getElem?_drop, List.getElem?_eq_getElem hbnd, List.getElem?_eq_getElem hj']
                  have h1 := hac _ _ (List.getElem?_eq_getElem hbnd)
                  have h2 := c3 j _ (List.getElem?_eq_getElem hj')
                  rw [h1] at h2
                  exact h2
                · next hj => rw [List.getElem?_eq_none (by omega)]
              rw [hseg]
              exact ros_path c2
          · simp only [wfs, wf]
            exact ⟨by simp only [maxLen]; simp only [maxLen] at hm; omega, fun i y hy => (hys i y hy).1⟩
      · cases h
    · next fs hu =>
      refine ⟨hsz, fun {H enc w base spare held} fuel cs x hx => ?_⟩
      obtain ⟨xs, m, _, _, hl, hxs, hf⟩ := DataW.trod_struct hu hx
      obtain ⟨y, hy, hF⟩ := fields_ok (fun t ls h => opn_of h) h (enc := enc) (w := w) (base := base) (spare := spare) (held := held) m cs (by omega) (fun i f hi => by
        have hi' : fs[i]? = some f := by rw [← Array.getElem?_toList]; exact hi
        have hlt : i < xs.length := by rw [hxs]; exact (Array.getElem?_eq_some_iff.mp hi').1
        exact ⟨_, (hf i f hi').trans (List.getElem?_eq_getElem hlt)⟩)
      exact ⟨y, by simpa using hy, hF⟩
    · cases h
end Go.Ev
end

section
/- Shapes that many functions come to: the sizing, turning and comparing of slices; plain laws on them. -/
set_option linter.unusedVariables false
namespace Go.Ev

def sumN : List Nat → Nat
  | [] => 0
  | a :: l => a + sumN l
mutual
def cost : (t : L) → t.den → Nat
  | .int _, _ => 0
  | .bool, _ => 0
  | .str, s => ByteArray.size s
  | .list _ ls, xs => List.length (α := L.dens ls) xs + sumN (List.map (α := L.dens ls) (costs ls) xs)
def costs : (ls : List L) → L.dens ls → Nat
  | [], _ => 0
  | [t], x => cost t x
  | t :: t' :: ts, x => cost t x.1 + costs (t' :: ts) x.2
end
theorem wrapI (n : Int) (h0 : -9223372036854775808 ≤ n) (h1 : n < 9223372036854775808) : IntKind.i64.wrap n = n := by
  rw [IntKind.wrap_i64]; omega
def capI : Int := 1048576
def leftI (c : Nat) (k : Int) : Int := if k < (c : Int) then -1 else k - (c : Int)

def szS {α : Type} (d : α) (P : α → Int → Prop) (F : α → Int → Int) (x : List α) (k : Int) (Q : Int → Prop) : Prop :=
  (IntKind.i64.wrap (k - (x.length : Int)) < 0 → Q (-1)) ∧
  (¬ IntKind.i64.wrap (k - (x.length : Int)) < 0 → ∀ Lp : Int × Int → Prop,
    (∀ y : Int × Int, ((y.2 < (x.length : Int) → 0 ≤ y.2 ∧ y.2 < (x.length : Int) ∧ P (x.getD y.2.toNat d) y.1 ∧
        ((F (x.getD y.2.toNat d) y.1 < 0 → Q (-1)) ∧ (¬ F (x.getD y.2.toNat d) y.1 < 0 → Lp (F (x.getD y.2.toNat d) y.1, IntKind.i64.wrap (y.2 + 1))))) ∧
      (¬ y.2 < (x.length : Int) → Q y.1)) → Lp y) → Lp (IntKind.i64.wrap (k - (x.length : Int)), 0))
theorem szS_holds {α : Type} (d : α) (c : α → Nat) (W : α → Prop) (xs : List α) (k : Int) (hlen : xs.length ≤ maxLen) (hw : ∀ (i : Nat) (y : α), gt xs i = some y → W y) (h0 : 0 ≤ k) (h1 : k ≤ capI) :
    szS d (fun y k => W y ∧ 0 ≤ k ∧ k ≤ capI) (fun y k => leftI (c y) k) xs k (fun r => r = leftI (xs.length + sumN (xs.map c)) k) := by
  simp only [maxLen] at hlen
  simp only [capI] at h1
  have hwr : IntKind.i64.wrap (k - (xs.length : Int)) = k - (xs.length : Int) := wrapI _ (by omega) (by omega)
  refine ⟨fun h => ?_, fun h Lp hL => ?_⟩
  · rw [hwr] at h
    unfold leftI
    rw [if_pos (by omega)]
  · rw [hwr] at h ⊢
    have key : ∀ (m i : Nat) (k' : Int), i + m = xs.length → 0 ≤ k' → k' + (sumN ((xs.take i).map c) : Int) = k - (xs.length : Int) → Lp (k', (i : Int)) := by
      intro m
      induction m with
      | zero =>
        intro i k' hi hk0 hk1
        have hi' : i = xs.length := by omega
        refine hL _ ⟨fun hlt => ?_, fun _ => ?_⟩
        · simp only at hlt; omega
        · rw [hi', List.take_length] at hk1
          simp only [leftI]
          rw [if_neg (by omega)]
          omega
      | succ m ih =>
        intro i k' hi hk0 hk1
        have hlt : i < xs.length := by omega
        have hget : xs.getD i d = xs[i] := by rw [List.getD_eq_getElem?_getD, List.getElem?_eq_getElem hlt]; rfl
        have htake : sumN ((xs.take (i + 1)).map c) = sumN ((xs.take i).map c) + c xs[i] := by
          rw [List.take_add_one, List.getElem?_eq_getElem hlt]
          simp only [Option.toList_some, List.map_append, List.map_cons, List.map_nil]
          exact sum_snoc _ _
        have hall : sumN ((xs.take (i + 1)).map c) ≤ sumN (xs.map c) := sum_take _ _
        refine hL _ ⟨fun _ => ⟨by simp only; omega, by simp only; omega, ?_, ?_⟩, fun hn => ?_⟩
        · simp only [Int.toNat_natCast, hget, capI]
          exact ⟨hw i _ (List.getElem?_eq_getElem hlt), hk0, by omega⟩
        · simp only [Int.toNat_natCast, hget, leftI]
          by_cases hc : k' < (c xs[i] : Int)
          · rw [if_pos hc]
            refine ⟨fun _ => ?_, fun h => by omega⟩
            rw [if_pos (by omega)]
          · rw [if_neg hc]
            refine ⟨fun h => by omega, fun _ => ?_⟩
            rw [wrapI _ (by omega) (by omega)]
            exact ih (i + 1) _ (by omega) (by omega) (by omega)
        · simp only at hn; omega
    exact key xs.length 0 _ (by omega) (by omega) (by simp [sumN])
where
  sum_snoc : ∀ (l : List Nat) (a : Nat), sumN (l ++ [a]) = sumN l + a
    | [], a => by simp [sumN]
    | b :: l, a => by simp only [List.cons_append, sumN, sum_snoc l a]; omega
  sum_take {c : α → Nat} : ∀ (l : List α) (i : Nat), sumN ((l.take i).map c) ≤ sumN (l.map c)
    | [], i => by simp
    | a :: l, 0 => by simp [sumN]
    | a :: l, i + 1 => by simp only [List.take_succ_cons, List.map_cons, sumN]; have := sum_take (c := c) l i; omega

def eqS {α : Type} (d : α) (P : α → α → Prop) (F : α → α → Bool) (x y : List α) (Q : Bool → Prop) : Prop :=
  ((x.length : Int) ≠ (y.length : Int) → Q false) ∧ (¬ (x.length : Int) ≠ (y.length : Int) → ∀ Lp : Int → Prop,
    (∀ i : Int, ((i < (x.length : Int) → 0 ≤ i ∧ i < (x.length : Int) ∧ 0 ≤ i ∧ i < (y.length : Int) ∧ P (x.getD i.toNat d) (y.getD i.toNat d) ∧
        ((¬ F (x.getD i.toNat d) (y.getD i.toNat d) = true → Q false) ∧ (¬ ¬ F (x.getD i.toNat d) (y.getD i.toNat d) = true → Lp (IntKind.i64.wrap (i + 1))))) ∧
      (¬ i < (x.length : Int) → Q true)) → Lp i) → Lp 0)
theorem eqS_holds {α : Type} (d : α) (P : α → α → Prop) (F : α → α → Bool) (x y : List α) (hlen : x.length ≤ maxLen) (hP : ∀ (i : Nat) (a b : α), gt x i = some a → P a b) (hF : ∀ a b, F a b = true ↔ a = b) {R : Bool} (hR : R = true ↔ x = y) :
    eqS d P F x y (fun r => r = R) := by
  simp only [maxLen] at hlen
  have hf : ∀ {p : Prop}, (p → ¬ x = y) → p → false = R := fun h hp => by
    cases R with
    | false => rfl
    | true => exact absurd (hR.1 rfl) (h hp)
  refine ⟨fun h => hf (p := True) (fun _ e => h (by rw [e])) trivial, fun h Lp hL => ?_⟩
  have hl : x.length = y.length := by
    have : (x.length : Int) = (y.length : Int) := Classical.byContradiction h
    omega
  have key : ∀ (m i : Nat), i + m = x.length → x.take i = y.take i → Lp (i : Int) := by
    intro m
    induction m with
    | zero =>
      intro i hi ht
      refine hL _ ⟨fun hlt => by omega, fun _ => ?_⟩
      rw [show i = x.length by omega, List.take_length, hl, List.take_length] at ht
      exact (hR.2 ht).symm
    | succ m ih =>
      intro i hi ht
      have hlt : i < x.length := by omega
      have hlt' : i < y.length := by omega
      have hgx : x.getD i d = x[i] := by rw [List.getD_eq_getElem?_getD, List.getElem?_eq_getElem hlt]; rfl
      have hgy : y.getD i d = y[i] := by rw [List.getD_eq_getElem?_getD, List.getElem?_eq_getElem hlt']; rfl
      refine hL _ ⟨fun _ => ?_, fun hn => by omega⟩
      simp only [Int.toNat_natCast, hgx, hgy]
      refine ⟨by omega, by omega, by omega, by omega, hP i _ _ (List.getElem?_eq_getElem hlt), fun hne => ?_, fun heq => ?_⟩
      · refine hf (p := ¬ F x[i] y[i] = true) (fun h e => h ((hF _ _).2 ?_)) hne
        subst e
        rfl
      · rw [wrapI _ (by omega) (by omega)]
        have he : x[i] = y[i] := (hF _ _).1 (Classical.byContradiction heq)
        refine ih (i + 1) (by omega) ?_
        rw [List.take_add_one, List.take_add_one, ht, List.getElem?_eq_getElem hlt, List.getElem?_eq_getElem hlt', he]
  exact key x.length 0 (by omega) (by simp)

def toS {α : Type} (d : α) (b : Nat) (P : α → Prop) (x : List α) (Q : List α → Prop) : Prop :=
  (x.length : Int) = (x.length : Int) ∧ 0 ≤ (x.length : Int) ∧ (x.length : Int) * (b : Int) ≤ 140737488355328 ∧ ∀ Lp : List α × Int → Prop,
    (∀ y : List α × Int, ((y.2 < (x.length : Int) → 0 ≤ y.2 ∧ y.2 < (x.length : Int) ∧ P (x.getD y.2.toNat d) ∧ 0 ≤ y.2 ∧ y.2 < (y.1.length : Int) ∧ Lp (y.1.set y.2.toNat (x.getD y.2.toNat d), IntKind.i64.wrap (y.2 + 1))) ∧
      (¬ y.2 < (x.length : Int) → Q y.1)) → Lp y) → Lp (List.replicate (x.length : Int).toNat d, 0)
theorem toS_holds {α : Type} (d : α) (b : Nat) (P : α → Prop) (x : List α) (hlen : x.length ≤ 1048576) (hb : b ≤ 1048576) (hP : ∀ (i : Nat) (a : α), gt x i = some a → P a) {Q : List α → Prop} (hQ : Q x) : toS d b P x Q := by
  have hmul : x.length * b ≤ 1048576 * 1048576 := Nat.mul_le_mul hlen hb
  refine ⟨rfl, by omega, by rw [← Int.natCast_mul]; omega, fun Lp hL => ?_⟩
  have key : ∀ (m i : Nat), i + m = x.length → Lp (x.take i ++ List.replicate m d, (i : Int)) := by
    intro m
    induction m with
    | zero =>
      intro i hi
      refine hL _ ⟨fun hlt => by simp only at hlt; omega, fun _ => ?_⟩
      simp only [List.replicate_zero, List.append_nil]
      rw [show i = x.length by omega, List.take_length]
      exact hQ
    | succ m ih =>
      intro i hi
      have hlt : i < x.length := by omega
      have hgx : x.getD i d = x[i] := by rw [List.getD_eq_getElem?_getD, List.getElem?_eq_getElem hlt]; rfl
      refine hL _ ⟨fun _ => ?_, fun hn => by simp only at hn; omega⟩
      simp only [Int.toNat_natCast, hgx]
      refine ⟨by omega, by omega, hP i _ (List.getElem?_eq_getElem hlt), by omega, by simp only [List.length_append, List.length_take, List.length_replicate]; omega, ?_⟩
      rw [wrapI _ (by omega) (by omega)]
      have hset : (x.take i ++ List.replicate (m + 1) d).set i x[i] = x.take (i + 1) ++ List.replicate m d := by
        rw [List.set_append_right _ _ (by rw [List.length_take]; omega), List.length_take, show i - min i x.length = 0 by omega, List.replicate_succ, List.set_cons_zero, show x.take (i + 1) = x.take i ++ [x[i]] from by rw [List.take_add_one, List.getElem?_eq_getElem hlt]; rfl, List.append_assoc]
        rfl
      rw [hset]
      exact ih (i + 1) (by omega)
  have := key x.length 0 (by omega)
  simpa using this

inductive SzStep (α : Type) where
  | str (g : α → ByteArray)
  | call (W : α → Prop) (c : α → Nat)
def szSt {α : Type} (x : α) : List (SzStep α) → Int → (Int → Prop) → Prop
  | [], k, Q => Q k
  | .str g :: r, k, Q => (IntKind.i64.wrap (k - ((g x).size : Int)) < 0 → Q (-1)) ∧ (¬ IntKind.i64.wrap (k - ((g x).size : Int)) < 0 → szSt x r (IntKind.i64.wrap (k - ((g x).size : Int))) Q)
  | .call W c :: r, k, Q => (W x ∧ 0 ≤ k ∧ k ≤ capI) ∧ ((leftI (c x) k < 0 → Q (-1)) ∧ (¬ leftI (c x) k < 0 → szSt x r (leftI (c x) k) Q))
def szSum {α : Type} (x : α) : List (SzStep α) → Nat
  | [] => 0
  | .str g :: r => (g x).size + szSum x r
  | .call _ c :: r => c x + szSum x r
def szFine {α : Type} (x : α) : List (SzStep α) → Prop
  | [] => True
  | .str g :: r => wf .str (g x) ∧ szFine x r
  | .call W _ :: r => W x ∧ szFine x r
theorem szSt_holds {α : Type} (x : α) : ∀ (l : List (SzStep α)) (k : Int) (n : Nat), szFine x l → 0 ≤ k → k ≤ capI → szSum x l = n → szSt x l k (fun r => r = leftI n k)
  | [], k, n, _, h0, h1, hn => by
    simp only [szSum] at hn
    subst hn
    simp only [szSt, leftI]
    rw [if_neg (by omega)]
    omega
  | .str g :: r, k, n, hf, h0, h1, hn => by
    simp only [szFine, wf, maxLen] at hf
    simp only [szSum] at hn
    simp only [capI] at h1
    have hw := wrapI (k - ((g x).size : Int)) (by omega) (by omega)
    simp only [szSt, hw]
    refine ⟨fun h => ?_, fun h => ?_⟩
    · unfold leftI
      rw [if_pos (by omega)]
    · have := szSt_holds x r (k - ((g x).size : Int)) (szSum x r) hf.2 (by omega) (by simp only [capI]; omega) rfl
      have e : leftI (szSum x r) (k - ((g x).size : Int)) = leftI n k := by
        unfold leftI
        by_cases hc : k - ((g x).size : Int) < (szSum x r : Int)
        · rw [if_pos hc, if_pos (by omega)]
        · rw [if_neg hc, if_neg (by omega)]; omega
      rwa [e] at this
  | .call W c :: r, k, n, hf, h0, h1, hn => by
    simp only [szFine] at hf
    simp only [szSum] at hn
    simp only [szSt]
    refine ⟨⟨hf.1, h0, h1⟩, fun h => ?_, fun h => ?_⟩
    · unfold leftI at h ⊢
      by_cases hc : k < (c x : Int)
      · rw [if_pos (by omega)]
      · rw [if_neg hc] at h; omega
    · have hk : leftI (c x) k = k - (c x : Int) := by
        unfold leftI at h ⊢
        by_cases hc : k < (c x : Int)
        · rw [if_pos hc] at h; omega
        · rw [if_neg hc]
      rw [hk] at h ⊢
      simp only [capI] at h1
      have := szSt_holds x r (k - (c x : Int)) (szSum x r) hf.2 (by omega) (by simp only [capI]; omega) rfl
      have e : leftI (szSum x r) (k - (c x : Int)) = leftI n k := by
        unfold leftI
        by_cases hc : k - (c x : Int) < (szSum x r : Int)
        · rw [if_pos hc, if_pos (by omega)]
        · rw [if_neg hc, if_neg (by omega)]; omega
      rwa [e] at this
inductive EqStep (α : Type) where
  | ne (p : α → α → Prop)
  | call (W : α → α → Prop) (F : α → α → Bool)
def eqSt {α : Type} (x y : α) : List (EqStep α) → (Bool → Prop) → Prop
  | [], Q => Q true
  | .ne p :: r, Q => (p x y → Q false) ∧ (¬ p x y → eqSt x y r Q)
  | .call W F :: r, Q => W x y ∧ ((¬ F x y = true → Q false) ∧ (¬ ¬ F x y = true → eqSt x y r Q))
def eqAll {α : Type} (x y : α) : List (EqStep α) → Prop
  | [] => True
  | .ne p :: r => ¬ p x y ∧ eqAll x y r
  | .call _ F :: r => F x y = true ∧ eqAll x y r
def eqFine {α : Type} (x y : α) : List (EqStep α) → Prop
  | [] => True
  | .ne _ :: r => eqFine x y r
  | .call W _ :: r => W x y ∧ eqFine x y r
theorem eqSt_holds {α : Type} (x y : α) : ∀ (l : List (EqStep α)) {R : Bool}, eqFine x y l → (R = true ↔ eqAll x y l) → eqSt x y l (fun r => r = R)
  | [], R, _, hR => by
    simp only [eqSt]
    exact (hR.2 trivial).symm
  | .ne p :: r, R, hf, hR => by
    simp only [eqSt]
    refine ⟨fun h => ?_, fun h => eqSt_holds x y r hf (hR.trans ⟨fun h => h.2, fun h' => ⟨h, h'⟩⟩)⟩
    cases R with
    | false => rfl
    | true => exact absurd h (hR.1 rfl).1
  | .call W F :: r, R, hf, hR => by
    simp only [eqSt]
    refine ⟨hf.1, fun h => ?_, fun h => eqSt_holds x y r hf.2 (hR.trans ⟨fun h => h.2, fun h' => ⟨Classical.byContradiction h, h'⟩⟩)⟩
    cases R with
    | false => rfl
    | true => exact absurd (hR.1 rfl).1 h
theorem sumN_mem : ∀ {l : List Nat} {a : Nat}, a ∈ l → a ≤ sumN l
  | b :: l, a, h => by
    simp only [sumN]
    rcases List.mem_cons.1 h with rfl | h
    · omega
    · have := sumN_mem h; omega
end Go.Ev
end

section
/- The plain library, first part: canonical types of the program's data, texts as lists of bytes, loops by measure. -/
set_option linter.unusedVariables false
namespace Go.Ev
abbrev S := ByteArray
abbrev Fld : Type := S × S
abbrev Req : Type := S × S × List Fld × S
abbrev Slt : Type := S × List Fld × Int × List Fld × S × Int × Int × Bool
abbrev Shd : Type := Int × Int × List Slt × Int
abbrev Gen : Type := S × Int
abbrev Flt : Type := S × Bool × Int × Bool × Bool × S × S × List Fld × S × Int × List Fld × S × Int × Int
abbrev Rsc : Type := S × S × Int × Int × Bool × Bool × List Fld
abbrev Tld : Type := Int × Int × List Fld × S
abbrev Evt : Type := Int × Int × Int × S × Int × Int
abbrev Cnn : Type := Int × S × Int × S × S × List Fld × S × S × S × List Fld × S × S × List Fld × Int × List Fld × S × Int × Int × Bool × Int × Int × Int × Int × Bool × Int × List Fld × S × List Tld
class Dft (α : Type) where
  dft : α
instance : Dft Int := ⟨0⟩
instance : Dft Bool := ⟨false⟩
instance : Dft ByteArray := ⟨ByteArray.empty⟩
instance {α : Type} : Dft (List α) := ⟨[]⟩
instance {α β : Type} [Dft α] [Dft β] : Dft (α × β) := ⟨(Dft.dft, Dft.dft)⟩
def rx {α : Type} [Dft α] (xs : List α) (i : Int) : α := xs.getD i.toNat Dft.dft
theorem rx_nat {α : Type} [Dft α] (xs : List α) (i : Nat) (h : i < xs.length) : rx xs (i : Int) = xs[i] := by
  unfold rx
  rw [Int.toNat_natCast, List.getD_eq_getElem?_getD, List.getElem?_eq_getElem h]; rfl

class Cz (α : Type) where
  czOf : α → Nat
def cz {α : Type} [Cz α] (x : α) : Nat := Cz.czOf x
instance : Cz Int := ⟨fun _ => 0⟩
instance : Cz Bool := ⟨fun _ => 0⟩
instance : Cz ByteArray := ⟨fun s => s.size⟩
instance {α : Type} [Cz α] : Cz (List α) := ⟨fun xs => xs.length + sumN (xs.map cz)⟩
instance {α β : Type} [Cz α] [Cz β] : Cz (α × β) := ⟨fun x => cz x.1 + cz x.2⟩
theorem cz_int (x : Int) : cz x = 0 := rfl
theorem cz_bool (x : Bool) : cz x = 0 := rfl
theorem cz_str (x : ByteArray) : cz x = x.size := rfl
theorem cz_list {α : Type} [Cz α] (xs : List α) : cz xs = xs.length + sumN (xs.map cz) := rfl
theorem cz_pair {α β : Type} [Cz α] [Cz β] (x : α × β) : cz x = cz x.1 + cz x.2 := rfl
theorem czt {α β : Type} [Cz α] [Cz β] {x : α × β} {n : Nat} (h : cz x ≤ n) : cz x.2 ≤ n := by rw [cz_pair] at h; omega
theorem czh {α β : Type} [Cz α] [Cz β] {x : α × β} {n : Nat} (h : cz x ≤ n) : cz x.1 ≤ n := by rw [cz_pair] at h; omega
theorem cz_len {α : Type} [Cz α] (xs : List α) : xs.length ≤ cz xs := by rw [cz_list]; omega
theorem cz_mem {α : Type} [Cz α] {xs : List α} {x : α} (h : x ∈ xs) : cz x + 1 ≤ cz xs := by
  rw [cz_list]
  have h1 := sumN_mem (List.mem_map.2 ⟨x, h, rfl⟩ : cz x ∈ xs.map cz)
  have h2 : 0 < xs.length := List.length_pos_of_mem h
  omega

def in64 (n : Int) : Prop := -9223372036854775808 ≤ n ∧ n ≤ 9223372036854775807
class Wd (α : Type) where
  wdOf : α → Prop
def wd {α : Type} [Wd α] (x : α) : Prop := Wd.wdOf x
instance : Wd Int := ⟨fun n => (Lit.int .i64 n).wf = true⟩
instance : Wd Bool := ⟨fun _ => True⟩
instance : Wd ByteArray := ⟨fun s => s.size ≤ maxLen⟩
instance {α : Type} [Wd α] : Wd (List α) := ⟨fun xs => xs.length ≤ maxLen ∧ ∀ (i : Nat) (x : α), gt xs i = some x → wd x⟩
instance {α β : Type} [Wd α] [Wd β] : Wd (α × β) := ⟨fun x => wd x.1 ∧ wd x.2⟩
instance : DecidableEq (List Fld × S) := @instDecidableEqProd _ _ inferInstance inferInstance
instance : DecidableEq (Int × List Fld × S) := @instDecidableEqProd _ _ inferInstance inferInstance
instance : Dft (Int × List Fld × S) := inferInstance
instance : Cz (Int × List Fld × S) := inferInstance
instance : Wd (Int × List Fld × S) := inferInstance
instance : DecidableEq (S × List Fld × S) := @instDecidableEqProd _ _ inferInstance inferInstance
instance : DecidableEq (S × S × List Fld × S) := @instDecidableEqProd _ _ inferInstance inferInstance
instance : Dft (S × S × List Fld × S) := inferInstance
instance : Cz (S × S × List Fld × S) := inferInstance
instance : Wd (S × S × List Fld × S) := inferInstance
instance : DecidableEq (Int × Int × List Fld × S) := @instDecidableEqProd _ _ inferInstance inferInstance
instance : Dft (Int × Int × List Fld × S) := inferInstance
instance : Cz (Int × Int × List Fld × S) := inferInstance
instance : Wd (Int × Int × List Fld × S) := inferInstance
instance : DecidableEq (Int × Int) := @instDecidableEqProd _ _ inferInstance inferInstance
instance : DecidableEq (S × Int × Int) := @instDecidableEqProd _ _ inferInstance inferInstance
instance : DecidableEq (List Fld × S × Int × Int) := @instDecidableEqProd _ _ inferInstance inferInstance
instance : Dft (List Fld × S × Int × Int) := inferInstance
instance : Cz (List Fld × S × Int × Int) := inferInstance
instance : Wd (List Fld × S × Int × Int) := inferInstance
instance : DecidableEq (Int × List Fld × S × Int × Int) := @instDecidableEqProd _ _ inferInstance inferInstance
instance : DecidableEq (List Fld × Int × List Fld × S × Int × Int) := @instDecidableEqProd _ _ inferInstance inferInstance
instance : DecidableEq (S × List Fld × Int × List Fld × S × Int × Int) := @instDecidableEqProd _ _ inferInstance inferInstance
instance : Dft (S × List Fld × Int × List Fld × S × Int × Int) := inferInstance
instance : Cz (S × List Fld × Int × List Fld × S × Int × Int) := inferInstance
instance : Wd (S × List Fld × Int × List Fld × S × Int × Int) := inferInstance
instance : DecidableEq (Int × Bool) := @instDecidableEqProd _ _ inferInstance inferInstance
instance : DecidableEq (Int × Int × Bool) := @instDecidableEqProd _ _ inferInstance inferInstance
instance : DecidableEq (S × Int × Int × Bool) := @instDecidableEqProd _ _ inferInstance inferInstance
instance : Dft (S × Int × Int × Bool) := inferInstance
instance : Cz (S × Int × Int × Bool) := inferInstance
instance : Wd (S × Int × Int × Bool) := inferInstance
instance : DecidableEq (List Fld × S × Int × Int × Bool) := @instDecidableEqProd _ _ inferInstance inferInstance
instance : DecidableEq (Int × List Fld × S × Int × Int × Bool) := @instDecidableEqProd _ _ inferInstance inferInstance
instance : DecidableEq (List Fld × Int × List Fld × S × Int × Int × Bool) := @instDecidableEqProd _ _ inferInstance inferInstance
instance : DecidableEq (S × List Fld × Int × List Fld × S × Int × Int × Bool) := @instDecidableEqProd _ _ inferInstance inferInstance
instance : Dft (S × List Fld × Int × List Fld × S × Int × Int × Bool) := inferInstance
instance : Cz (S × List Fld × Int × List Fld × S × Int × Int × Bool) := inferInstance
instance : Wd (S × List Fld × Int × List Fld × S × Int × Int × Bool) := inferInstance
instance : DecidableEq (List Slt × Int) := @instDecidableEqProd _ _ inferInstance inferInstance
instance : DecidableEq (Int × List Slt × Int) := @instDecidableEqProd _ _ inferInstance inferInstance
instance : DecidableEq (Int × Int × List Slt × Int) := @instDecidableEqProd _ _ inferInstance inferInstance
instance : Dft (Int × Int × List Slt × Int) := inferInstance
instance : Cz (Int × Int × List Slt × Int) := inferInstance
instance : Wd (Int × Int × List Slt × Int) := inferInstance
instance : DecidableEq (S × Int) := @instDecidableEqProd _ _ inferInstance inferInstance
instance : Dft (S × Int) := inferInstance
instance : Cz (S × Int) := inferInstance
instance : Wd (S × Int) := inferInstance
instance : DecidableEq (S × Int × List Fld × S × Int × Int) := @instDecidableEqProd _ _ inferInstance inferInstance
instance : DecidableEq (List Fld × S × Int × List Fld × S × Int × Int) := @instDecidableEqProd _ _ inferInstance inferInstance
instance : DecidableEq (S × List Fld × S × Int × List Fld × S × Int × Int) := @instDecidableEqProd _ _ inferInstance inferInstance
instance : Dft (S × List Fld × S × Int × List Fld × S × Int × Int) := inferInstance
instance : Cz (S × List Fld × S × Int × List Fld × S × Int × Int) := inferInstance
instance : Wd (S × List Fld × S × Int × List Fld × S × Int × Int) := inferInstance
instance : DecidableEq (S × S × List Fld × S × Int × List Fld × S × Int × Int) := @instDecidableEqProd _ _ inferInstance inferInstance
instance : DecidableEq (Bool × S × S × List Fld × S × Int × List Fld × S × Int × Int) := @instDecidableEqProd _ _ inferInstance inferInstance
instance : DecidableEq (Bool × Bool × S × S × List Fld × S × Int × List Fld × S × Int × Int) := @instDecidableEqProd _ _ inferInstance inferInstance
instance : DecidableEq (Int × Bool × Bool × S × S × List Fld × S × Int × List Fld × S × Int × Int) := @instDecidableEqProd _ _ inferInstance inferInstance
instance : Dft (Int × Bool × Bool × S × S × List Fld × S × Int × List Fld × S × Int × Int) := inferInstance
instance : Cz (Int × Bool × Bool × S × S × List Fld × S × Int × List Fld × S × Int × Int) := inferInstance
instance : Wd (Int × Bool × Bool × S × S × List Fld × S × Int × List Fld × S × Int × Int) := inferInstance
instance : DecidableEq (Bool × Int × Bool × Bool × S × S × List Fld × S × Int × List Fld × S × Int × Int) := @instDecidableEqProd _ _ inferInstance inferInstance
instance : DecidableEq (S × Bool × Int × Bool × Bool × S × S × List Fld × S × Int × List Fld × S × Int × Int) := @instDecidableEqProd _ _ inferInstance inferInstance
instance : Dft (S × Bool × Int × Bool × Bool × S × S × List Fld × S × Int × List Fld × S × Int × Int) := inferInstance
instance : Cz (S × Bool × Int × Bool × Bool × S × S × List Fld × S × Int × List Fld × S × Int × Int) := inferInstance
instance : Wd (S × Bool × Int × Bool × Bool × S × S × List Fld × S × Int × List Fld × S × Int × Int) := inferInstance
instance : DecidableEq (Bool × List Fld) := @instDecidableEqProd _ _ inferInstance inferInstance
instance : DecidableEq (Bool × Bool × List Fld) := @instDecidableEqProd _ _ inferInstance inferInstance
instance : DecidableEq (Int × Bool × Bool × List Fld) := @instDecidableEqProd _ _ inferInstance inferInstance
instance : Dft (Int × Bool × Bool × List Fld) := inferInstance
instance : Cz (Int × Bool × Bool × List Fld) := inferInstance
instance : Wd (Int × Bool × Bool × List Fld) := inferInstance
instance : DecidableEq (Int × Int × Bool × Bool × List Fld) := @instDecidableEqProd _ _ inferInstance inferInstance
instance : DecidableEq (S × Int × Int × Bool × Bool × List Fld) := @instDecidableEqProd _ _ inferInstance inferInstance
instance : DecidableEq (S × S × Int × Int × Bool × Bool × List Fld) := @instDecidableEqProd _ _ inferInstance inferInstance
instance : Dft (S × S × Int × Int × Bool × Bool × List Fld) := inferInstance
instance : Cz (S × S × Int × Int × Bool × Bool × List Fld) := inferInstance
instance : Wd (S × S × Int × Int × Bool × Bool × List Fld) := inferInstance
instance : DecidableEq (Int × S × Int × Int) := @instDecidableEqProd _ _ inferInstance inferInstance
instance : Dft (Int × S × Int × Int) := inferInstance
instance : Cz (Int × S × Int × Int) := inferInstance
instance : Wd (Int × S × Int × Int) := inferInstance
instance : DecidableEq (Int × Int × S × Int × Int) := @instDecidableEqProd _ _ inferInstance inferInstance
instance : DecidableEq (Int × Int × Int × S × Int × Int) := @instDecidableEqProd _ _ inferInstance inferInstance
instance : Dft (Int × Int × Int × S × Int × Int) := inferInstance
instance : Cz (Int × Int × Int × S × Int × Int) := inferInstance
instance : Wd (Int × Int × Int × S × Int × Int) := inferInstance
instance : DecidableEq (S × List Tld) := @instDecidableEqProd _ _ inferInstance inferInstance
instance : DecidableEq (List Fld × S × List Tld) := @instDecidableEqProd _ _ inferInstance inferInstance
instance : DecidableEq (Int × List Fld × S × List Tld) := @instDecidableEqProd _ _ inferInstance inferInstance
instance : Dft (Int × List Fld × S × List Tld) := inferInstance
instance : Cz (Int × List Fld × S × List Tld) := inferInstance
instance : Wd (Int × List Fld × S × List Tld) := inferInstance
instance : DecidableEq (Bool × Int × List Fld × S × List Tld) := @instDecidableEqProd _ _ inferInstance inferInstance
instance : DecidableEq (Int × Bool × Int × List Fld × S × List Tld) := @instDecidableEqProd _ _ inferInstance inferInstance
instance : DecidableEq (Int × Int × Bool × Int × List Fld × S × List Tld) := @instDecidableEqProd _ _ inferInstance inferInstance
instance : DecidableEq (Int × Int × Int × Bool × Int × List Fld × S × List Tld) := @instDecidableEqProd _ _ inferInstance inferInstance
instance : Dft (Int × Int × Int × Bool × Int × List Fld × S × List Tld) := inferInstance
instance : Cz (Int × Int × Int × Bool × Int × List Fld × S × List Tld) := inferInstance
instance : Wd (Int × Int × Int × Bool × Int × List Fld × S × List Tld) := inferInstance
instance : DecidableEq (Int × Int × Int × Int × Bool × Int × List Fld × S × List Tld) := @instDecidableEqProd _ _ inferInstance inferInstance
instance : DecidableEq (Bool × Int × Int × Int × Int × Bool × Int × List Fld × S × List Tld) := @instDecidableEqProd _ _ inferInstance inferInstance
instance : DecidableEq (Int × Bool × Int × Int × Int × Int × Bool × Int × List Fld × S × List Tld) := @instDecidableEqProd _ _ inferInstance inferInstance
instance : DecidableEq (Int × Int × Bool × Int × Int × Int × Int × Bool × Int × List Fld × S × List Tld) := @instDecidableEqProd _ _ inferInstance inferInstance
instance : Dft (Int × Int × Bool × Int × Int × Int × Int × Bool × Int × List Fld × S × List Tld) := inferInstance
instance : Cz (Int × Int × Bool × Int × Int × Int × Int × Bool × Int × List Fld × S × List Tld) := inferInstance
instance : Wd (Int × Int × Bool × Int × Int × Int × Int × Bool × Int × List Fld × S × List Tld) := inferInstance
instance : DecidableEq (S × Int × Int × Bool × Int × Int × Int × Int × Bool × Int × List Fld × S × List Tld) := @instDecidableEqProd _ _ inferInstance inferInstance
instance : DecidableEq (List Fld × S × Int × Int × Bool × Int × Int × Int × Int × Bool × Int × List Fld × S × List Tld) := @instDecidableEqProd _ _ inferInstance inferInstance
instance : DecidableEq (Int × List Fld × S × Int × Int × Bool × Int × Int × Int × Int × Bool × Int × List Fld × S × List Tld) := @instDecidableEqProd _ _ inferInstance inferInstance
instance : DecidableEq (List Fld × Int × List Fld × S × Int × Int × Bool × Int × Int × Int × Int × Bool × Int × List Fld × S × List Tld) := @instDecidableEqProd _ _ inferInstance inferInstance
instance : Dft (List Fld × Int × List Fld × S × Int × Int × Bool × Int × Int × Int × Int × Bool × Int × List Fld × S × List Tld) := inferInstance
instance : Cz (List Fld × Int × List Fld × S × Int × Int × Bool × Int × Int × Int × Int × Bool × Int × List Fld × S × List Tld) := inferInstance
instance : Wd (List Fld × Int × List Fld × S × Int × Int × Bool × Int × Int × Int × Int × Bool × Int × List Fld × S × List Tld) := inferInstance
instance : DecidableEq (S × List Fld × Int × List Fld × S × Int × Int × Bool × Int × Int × Int × Int × Bool × Int × List Fld × S × List Tld) := @instDecidableEqProd _ _ inferInstance inferInstance
instance : DecidableEq (S × S × List Fld × Int × List Fld × S × Int × Int × Bool × Int × Int × Int × Int × Bool × Int × List Fld × S × List Tld) := @instDecidableEqProd _ _ inferInstance inferInstance
instance : DecidableEq (List Fld × S × S × List Fld × Int × List Fld × S × Int × Int × Bool × Int × Int × Int × Int × Bool × Int × List Fld × S × List Tld) := @instDecidableEqProd _ _ inferInstance inferInstance
instance : DecidableEq (S × List Fld × S × S × List Fld × Int × List Fld × S × Int × Int × Bool × Int × Int × Int × Int × Bool × Int × List Fld × S × List Tld) := @instDecidableEqProd _ _ inferInstance inferInstance
instance : Dft (S × List Fld × S × S × List Fld × Int × List Fld × S × Int × Int × Bool × Int × Int × Int × Int × Bool × Int × List Fld × S × List Tld) := inferInstance
instance : Cz (S × List Fld × S × S × List Fld × Int × List Fld × S × Int × Int × Bool × Int × Int × Int × Int × Bool × Int × List Fld × S × List Tld) := inferInstance
instance : Wd (S × List Fld × S × S × List Fld × Int × List Fld × S × Int × Int × Bool × Int × Int × Int × Int × Bool × Int × List Fld × S × List Tld) := inferInstance
instance : DecidableEq (S × S × List Fld × S × S × List Fld × Int × List Fld × S × Int × Int × Bool × Int × Int × Int × Int × Bool × Int × List Fld × S × List Tld) := @instDecidableEqProd _ _ inferInstance inferInstance
instance : DecidableEq (S × S × S × List Fld × S × S × List Fld × Int × List Fld × S × Int × Int × Bool × Int × Int × Int × Int × Bool × Int × List Fld × S × List Tld) := @instDecidableEqProd _ _ inferInstance inferInstance
instance : DecidableEq (List Fld × S × S × S × List Fld × S × S × List Fld × Int × List Fld × S × Int × Int × Bool × Int × Int × Int × Int × Bool × Int × List Fld × S × List Tld) := @instDecidableEqProd _ _ inferInstance inferInstance
instance : DecidableEq (S × List Fld × S × S × S × List Fld × S × S × List Fld × Int × List Fld × S × Int × Int × Bool × Int × Int × Int × Int × Bool × Int × List Fld × S × List Tld) := @instDecidableEqProd _ _ inferInstance inferInstance
instance : Dft (S × List Fld × S × S × S × List Fld × S × S × List Fld × Int × List Fld × S × Int × Int × Bool × Int × Int × Int × Int × Bool × Int × List Fld × S × List Tld) := inferInstance
instance : Cz (S × List Fld × S × S × S × List Fld × S × S × List Fld × Int × List Fld × S × Int × Int × Bool × Int × Int × Int × Int × Bool × Int × List Fld × S × List Tld) := inferInstance
instance : Wd (S × List Fld × S × S × S × List Fld × S × S × List Fld × Int × List Fld × S × Int × Int × Bool × Int × Int × Int × Int × Bool × Int × List Fld × S × List Tld) := inferInstance
instance : DecidableEq (S × S × List Fld × S × S × S × List Fld × S × S × List Fld × Int × List Fld × S × Int × Int × Bool × Int × Int × Int × Int × Bool × Int × List Fld × S × List Tld) := @instDecidableEqProd _ _ inferInstance inferInstance
instance : DecidableEq (Int × S × S × List Fld × S × S × S × List Fld × S × S × List Fld × Int × List Fld × S × Int × Int × Bool × Int × Int × Int × Int × Bool × Int × List Fld × S × List Tld) := @instDecidableEqProd _ _ inferInstance inferInstance
instance : DecidableEq (S × Int × S × S × List Fld × S × S × S × List Fld × S × S × List Fld × Int × List Fld × S × Int × Int × Bool × Int × Int × Int × Int × Bool × Int × List Fld × S × List Tld) := @instDecidableEqProd _ _ inferInstance inferInstance
instance : DecidableEq (Int × S × Int × S × S × List Fld × S × S × S × List Fld × S × S × List Fld × Int × List Fld × S × Int × Int × Bool × Int × Int × Int × Int × Bool × Int × List Fld × S × List Tld) := @instDecidableEqProd _ _ inferInstance inferInstance
instance : Dft (Int × S × Int × S × S × List Fld × S × S × S × List Fld × S × S × List Fld × Int × List Fld × S × Int × Int × Bool × Int × Int × Int × Int × Bool × Int × List Fld × S × List Tld) := inferInstance
instance : Cz (Int × S × Int × S × S × List Fld × S × S × S × List Fld × S × S × List Fld × Int × List Fld × S × Int × Int × Bool × Int × Int × Int × Int × Bool × Int × List Fld × S × List Tld) := inferInstance
instance : Wd (Int × S × Int × S × S × List Fld × S × S × S × List Fld × S × S × List Fld × Int × List Fld × S × Int × Int × Bool × Int × Int × Int × Int × Bool × Int × List Fld × S × List Tld) := inferInstance
instance : DecidableEq (List Shd × List Gen) := @instDecidableEqProd _ _ inferInstance inferInstance
instance : Dft (List Shd × List Gen) := inferInstance
instance : Cz (List Shd × List Gen) := inferInstance
instance : Wd (List Shd × List Gen) := inferInstance
instance : DecidableEq (List Rsc × List Evt) := @instDecidableEqProd _ _ inferInstance inferInstance
instance : DecidableEq (List Flt × List Rsc × List Evt) := @instDecidableEqProd _ _ inferInstance inferInstance
instance : DecidableEq (List Gen × List Flt × List Rsc × List Evt) := @instDecidableEqProd _ _ inferInstance inferInstance
instance : Dft (List Gen × List Flt × List Rsc × List Evt) := inferInstance
instance : Cz (List Gen × List Flt × List Rsc × List Evt) := inferInstance
instance : Wd (List Gen × List Flt × List Rsc × List Evt) := inferInstance
instance : DecidableEq (List Shd × List Gen × List Flt × List Rsc × List Evt) := @instDecidableEqProd _ _ inferInstance inferInstance
instance : DecidableEq (List Cnn × List Shd × List Gen × List Flt × List Rsc × List Evt) := @instDecidableEqProd _ _ inferInstance inferInstance
instance : DecidableEq (Int × List Cnn × List Shd × List Gen × List Flt × List Rsc × List Evt) := @instDecidableEqProd _ _ inferInstance inferInstance
instance : DecidableEq (Int × Int × List Cnn × List Shd × List Gen × List Flt × List Rsc × List Evt) := @instDecidableEqProd _ _ inferInstance inferInstance
instance : Dft (Int × Int × List Cnn × List Shd × List Gen × List Flt × List Rsc × List Evt) := inferInstance
instance : Cz (Int × Int × List Cnn × List Shd × List Gen × List Flt × List Rsc × List Evt) := inferInstance
instance : Wd (Int × Int × List Cnn × List Shd × List Gen × List Flt × List Rsc × List Evt) := inferInstance
theorem wd_pair {α β : Type} [Wd α] [Wd β] {x : α × β} : wd x ↔ wd x.1 ∧ wd x.2 := Iff.rfl
theorem wf_wd {s : ByteArray} : wf .str s = wd s := by simp only [wf]; rfl
def szF {α : Type} [Cz α] (x : α) (k : Int) : Int := leftI (cz x) k
def pSz {α : Type} [Wd α] (x : α) (k : Int) : Prop := wd x ∧ 0 ≤ k ∧ k ≤ capI
def eqF {α : Type} [DecidableEq α] (x y : α) : Bool := decide (x = y)
def pEq {α : Type} [Wd α] (x _y : α) : Prop := wd x
theorem eqF_iff {α : Type} [DecidableEq α] {x y : α} : eqF x y = true ↔ x = y := decide_eq_true_iff
def toF {α : Type} (x : α) : α := x
def pTo {α : Type} [Cz α] (x : α) : Prop := cz x ≤ 1048576

def lit (l : List Nat) : ByteArray := ⟨(l.map UInt8.ofNat).toArray⟩
abbrev bs (s : ByteArray) : List UInt8 := s.data.toList
def ob (l : List UInt8) : ByteArray := ⟨l.toArray⟩
theorem bs_ob (l : List UInt8) : bs (ob l) = l := rfl
theorem ob_bs (s : ByteArray) : ob (bs s) = s := rfl
theorem bs_inj {s t : ByteArray} (h : bs s = bs t) : s = t := by rw [← ob_bs s, h, ob_bs]
theorem bs_len (s : ByteArray) : (bs s).length = s.size := by
  show s.data.toList.length = s.data.size
  exact Array.length_toList
theorem ob_size (l : List UInt8) : (ob l).size = l.length := by rw [← bs_len, bs_ob]
theorem bs_append (s t : ByteArray) : bs (s ++ t) = bs s ++ bs t := by
  show (s ++ t).data.toList = _
  rw [ByteArray.data_append, Array.toList_append]
theorem bs_extract (s : ByteArray) (i j : Nat) : bs (s.extract i j) = ((bs s).drop i).take (j - i) := by
  show (s.extract i j).data.toList = _
  rw [ByteArray.data_extract, Array.toList_extract, List.extract_eq_take_drop]
theorem bs_lit (l : List Nat) : bs (lit l) = l.map UInt8.ofNat := rfl
theorem size_append (s t : ByteArray) : (s ++ t).size = s.size + t.size := by rw [← bs_len, bs_append, List.length_append, bs_len, bs_len]
theorem bt_nat (s : ByteArray) (i : Nat) (h : i < s.size) : bt s (i : Int) = (((bs s)[i]'(by rw [bs_len]; exact h)).toNat : Int) := by
  unfold bt
  simp only [Int.toNat_natCast]
  rw [dif_pos h]
  rfl
theorem wrap64 {n : Int} (h0 : -9223372036854775808 ≤ n) (h1 : n < 9223372036854775808) : IntKind.i64.wrap n = n := wrapI n h0 h1
theorem wrap8 {n : Int} (h0 : 0 ≤ n) (h1 : n < 256) : IntKind.u8.wrap n = n := by
  simp [IntKind.wrap, IntKind.bits, IntKind.signed]
  omega

theorem loopI {α : Type} {Lp : α → Prop} {B : α → Prop} (hL : ∀ y, B y → Lp y) (I : α → Prop) (m : α → Nat) (step : ∀ y, I y → (∀ y', I y' → m y' < m y → Lp y') → B y) : ∀ y, I y → Lp y := by
  have key : ∀ (n : Nat) (y : α), m y = n → I y → Lp y := by
    intro n
    induction n using Nat.strongRecOn with
    | _ n ih =>
      intro y hm hI
      exact hL y (step y hI fun y' hI' hlt => ih (m y') (by omega) y' rfl hI')
  exact fun y hI => key _ y rfl hI
instance {s t : ByteArray} : Decidable (strLt s t) := inferInstanceAs (Decidable (_ = _))
def idxI {α : Type} (p : α → Bool) (xs : List α) : Int := match xs.findIdx? p with
  | some i => (i : Int)
  | none => -1
theorem idxI_neg {α : Type} {p : α → Bool} {xs : List α} : idxI p xs < 0 ↔ xs.any p = false := by
  unfold idxI
  cases h : xs.findIdx? p with
  | none =>
    rw [List.findIdx?_eq_none_iff] at h
    simp only [Int.reduceNeg, Int.reduceLT, true_iff, List.any_eq_false, Bool.not_eq_true]
    exact h
  | some i =>
    rw [List.findIdx?_eq_some_iff_getElem] at h
    obtain ⟨hi, hp, _⟩ := h
    have : xs.any p = true := List.any_eq_true.2 ⟨xs[i], List.getElem_mem hi, hp⟩
    rw [this]
    show (i : Int) < 0 ↔ _
    constructor
    · intro h; omega
    · intro h; cases h
theorem idxI_at {α : Type} {p : α → Bool} {xs : List α} {i : Nat} (hi : i < xs.length) (hp : p xs[i] = true) (hb : ∀ j (h : j < i), p (xs[j]'(by omega)) = false) : idxI p xs = (i : Int) := by
  have : xs.findIdx? p = some i := by
    rw [List.findIdx?_eq_some_iff_getElem]
    exact ⟨hi, hp, fun j hj => by simp [hb j hj]⟩
  unfold idxI
  rw [this]
theorem idxI_none {α : Type} {p : α → Bool} {xs : List α} (hb : ∀ j (h : j < xs.length), p xs[j] = false) : idxI p xs = -1 := by
  have : xs.findIdx? p = none := by
    rw [List.findIdx?_eq_none_iff]
    intro x hx
    obtain ⟨j, hj, rfl⟩ := List.mem_iff_getElem.1 hx
    exact hb j hj
  unfold idxI
  rw [this]
end Go.Ev
namespace Go.Ev
theorem ct_by {P : Program} {E : Env} {w : World} {H : Nat → List CT} {fn : Func} {c : Ct} (hE : EnvOk P E) (hC : EnvCts P E w w.heap.size) (hf : P.funcs[c.f]? = some fn) (hname : (fn.name == "runtime.NumGoroutine") = false)
    {A : Prop} (hA : A) (hev : A = ∀ x, c.pre x → evalFn E H fn c.ps c.rs c.shared x fun r => r = c.F x) : CtAt P c w := ct_ok hE hC hf hname (hev ▸ hA)
theorem loopN {Lp B : Int → Prop} (hL : ∀ y, B y → Lp y) (n : Nat) (hn : n ≤ 9223372036854775807) (I : Nat → Prop) (step : ∀ i : Nat, i ≤ n → I i → (i < n → I (i + 1) → Lp (IntKind.i64.wrap ((i : Int) + 1))) → B (i : Int)) (h0 : I 0) : Lp 0 := by
  have key : ∀ m i : Nat, i + m = n → I i → Lp (i : Int) := by
    intro m
    induction m with
    | zero => exact fun i hi hI => hL _ (step i (by omega) hI fun h => absurd h (by omega))
    | succ m ih =>
      exact fun i hi hI => hL _ (step i (by omega) hI fun h hI' => by
        rw [wrap64 (by omega) (by omega)]
        exact ih (i + 1) (by omega) hI')
  exact key n 0 (by omega) h0
theorem loopG {σ : Type} {Lp B : σ → Prop} (hL : ∀ y, B y → Lp y) (n : Nat) (I : Nat → σ → Prop) (step : ∀ (i : Nat) (s : σ), i ≤ n → I i s → (∀ s', i < n → I (i + 1) s' → Lp s') → B s) {s0 : σ} (h0 : I 0 s0) : Lp s0 := by
  have key : ∀ (m i : Nat) (s : σ), i + m = n → I i s → Lp s := by
    intro m
    induction m with
    | zero => exact fun i s hi hI => hL _ (step i s (by omega) hI fun s' h => absurd h (by omega))
    | succ m ih => exact fun i s hi hI => hL _ (step i s (by omega) hI fun s' h hI' => ih (i + 1) s' (by omega) hI')
  exact key n 0 s0 (by omega) h0
theorem wrapS {i : Nat} (h : i ≤ 4611686018427387904) : IntKind.i64.wrap ((i : Int) + 1) = ((i + 1 : Nat) : Int) := by
  rw [wrap64 (by omega) (by omega)]; omega
theorem take_succ_app {α : Type} {l : List α} {i : Nat} (h : i < l.length) : l.take (i + 1) = l.take i ++ [l[i]] := by
  rw [List.take_add_one, List.getElem?_eq_getElem h]; rfl
theorem rx_get {α : Type} [Dft α] (xs : List α) {i : Nat} (h : i < xs.length) : rx xs (i : Int) = xs[i] := rx_nat xs i h
theorem md_mem {α : Type} [Cz α] {xs : List α} (h : cz xs ≤ 1048576) {x : α} (hx : x ∈ xs) : cz x ≤ 1048576 := by
  have := cz_mem hx
  omega
theorem any_true {α : Type} {p : α → Bool} {l : List α} {i : Nat} (h : i < l.length) (hp : p l[i] = true) : l.any p = true := List.any_eq_true.2 ⟨l[i], List.getElem_mem h, hp⟩
end Go.Ev
end

section
/- The plain library: what the program's functions compute, as Lean functions; and what they ask of their arguments. -/
set_option linter.unusedVariables false
namespace Go.Ev
def sm (s : S) : Prop := s.size ≤ 1073741824
def md {α : Type} [Cz α] (x : α) : Prop := cz x ≤ 1048576

def joinL (sep : S) : List S → S
  | [] => lit []
  | [x] => x
  | x :: y :: r => x ++ sep ++ joinL sep (y :: r)
def mJoin (xs : List S) (sep : S) : S := joinL sep xs
def pJoin (xs : List S) (sep : S) : Prop := xs.length ≤ 1073741824 ∧ sumN (xs.map fun x => x.size) ≤ 1073741824 ∧ sep.size ≤ 16
def mTrimL (s cs : S) : S := ob (Lib.trimS (bs s) (bs cs))
def pTrimL (s cs : S) : Prop := sm s ∧ cs = lit [32, 9]
def mIndex_string (xs : List S) (x : S) : Int := idxI (fun y => decide (x = y)) xs
def pIndex_string (xs : List S) (x : S) : Prop := xs.length ≤ maxLen
def mIn (n lo hi : Int) : Bool := decide (lo ≤ n) && decide (n ≤ hi)
def pIn (n lo hi : Int) : Prop := True

def mItoa (n : Int) : S := ob (Lib.itoa n)
def pItoa (n : Int) : Prop := in64 n
def mDec (n : Int) : S := mItoa n
def pDec (n : Int) : Prop := in64 n
def lowB (b : UInt8) : UInt8 := if 65 ≤ b.toNat ∧ b.toNat ≤ 90 then b + 32 else b
def mBlank (b : Int) : Bool := decide (b = 32) || decide (b = 9)
def pBlank (b : Int) : Prop := True
def mTrim (s : S) : S := ob (Lib.trimS (bs s) [32, 9])
def pTrim (s : S) : Prop := sm s
def partsL : Bool → List UInt8 → List UInt8 → List (List UInt8)
  | _, cur, [] => [cur]
  | true, cur, [b] => [cur ++ [b]]
  | true, cur, b :: c :: r => if b = 34 then partsL false (cur ++ [b]) (c :: r) else if b = 92 then partsL true (cur ++ [b, c]) r else partsL true (cur ++ [b]) (c :: r)
  | false, cur, b :: r => if b = 34 then partsL true (cur ++ [b]) r else if b = 44 then cur :: partsL false [] r else partsL false (cur ++ [b]) r
def trimmed (l : List (List UInt8)) : List S := (l.map fun p => mTrim (ob p)).filter fun s => decide (s ≠ lit [])
def mSplitList (s : S) : List S := trimmed (partsL false [] (bs s))
def pSplitList (s : S) : Prop := sm s
def commasL : Bool → Int → List UInt8 → List Int
  | _, _, [] => []
  | true, _, [_] => []
  | true, i, b :: c :: r => if b = 34 then commasL false (i + 1) (c :: r) else if b = 92 then commasL true (i + 2) r else commasL true (i + 1) (c :: r)
  | false, i, b :: r => if b = 34 then commasL true (i + 1) r else if b = 44 then i :: commasL false (i + 1) r else commasL false (i + 1) r
def mCommas (s : S) : List Int := commasL false 0 (bs s)
def pCommas (s : S) : Prop := sm s

def valuesOf (l : List Fld) (n : S) : List S := (l.filter fun f => decide (f.1 = n)).map fun f => f.2
def mFieldGet (l : List Fld) (n : S) : S × Bool := (mJoin (valuesOf l n) (lit [44, 32]), decide (0 < (valuesOf l n).length))
def pFieldGet (l : List Fld) (n : S) : Prop := md l
end Go.Ev
end

section
/- The plain library: what the laws' marks are. -/
set_option linter.unusedVariables false
namespace Go.Ev
end Go.Ev
end

section
/- The plain library: marks of texts in a row, FieldSet and WithAge. -/
set_option linter.unusedVariables false
namespace Go.Ev
end Go.Ev
end

section
/- A law's end: from the contract of the law's function to its calls. -/
set_option linter.unusedVariables false
namespace Go.Ev
open Go.RowKit Go.WideShapes
def boolCt (f : FuncId) (ps : List PT) (pre : pts ps → Prop) : Ct := { f, ps, rs := [(false, [.bool])], shared := false, pre, F := fun _ => (true : Bool) }
theorem bool_end {P : Program} {f : FuncId} {ps : List PT} {pre : pts ps → Prop} {W : World} {vals : Array Value} {x : pts ps} (h : CtAt P (boolCt f ps pre) W) (hargs : argsR (now W) W ps x vals.toList) (hpre : pre x) :
    Calls P f vals W fun e w' => e = .returned (.bool true) ∧ Below W.heap.size W w' := by
  obtain ⟨_, hc⟩ := h vals x (now W) (fun b hb => hb) hargs hpre
  refine hc.mono fun e w' ⟨vs, v, col, he, hb, hv, _, hr⟩ => ?_
  simp only [boolCt, resR] at hr
  obtain ⟨u, vs', cs, rfl, ho, hs, rfl⟩ := hr
  simp only [outR, repL] at ho
  obtain ⟨u2, cs', rfl, hb2, rfl⟩ := ho
  have hs := hs.resolve_left fun h => by simp [anyRes] at h
  simp only [slotV, Bool.false_eq_true, if_false] at hs
  have e1 : u2 = u := by simpa using hs
  subst e1
  have hu : u2 = .bool true := hb2
  subst hu
  refine ⟨?_, hb⟩
  rw [he]
  rcases hv with hv | ⟨hv, _⟩
  · have : v = .bool true := by simpa using hv.symm
    rw [this]
  · simp at hv
theorem args_nil {S : Nat → Prop} {W : World} : argsR S W [] () [] := rfl
theorem args_cons {S : Nat → Prop} {W : World} {p : PT} {ps : List PT} {x : p.den} {xs : pts ps} {v : Value} {vs : List Value} (h1 : argR S W p x v) (h2 : argsR S W ps xs vs) : argsR S W (p :: ps) (pmk x xs) (v :: vs) := by
  simp only [argsR]
  exact ⟨v, vs, rfl, by rw [phd_pmk]; exact h1, by rw [ptl_pmk]; exact h2⟩
theorem arg_agg {S : Nat → Prop} {W : World} {ts : List L} {x : dens ts} {cs : Array Value} (h : repLs (roRow W S) ts [] 0 0 x cs.toList) : argR S W (.v true .ro ts) x (.agg cs) := ⟨cs.toList, h, by simp [slotV]⟩
theorem arg_one {S : Nat → Prop} {W : World} {ts : List L} {x : dens ts} {v : Value} (h : repLs (roRow W S) ts [] 0 0 x [v]) : argR S W (.v false .ro ts) x v := ⟨[v], h, by simp [slotV]⟩
theorem by_like {A B : Prop} (hA : A) (h : A = B) : B := h ▸ hA
end Go.Ev
end

section
/- Library functions: from a call's law to a contract of the small machine. -/
set_option linter.unusedVariables false
namespace Go.Ev
open Go.RowKit
theorem tab_below {P : Program} {w W : World} {name : String} {k : IntKind} {zs : List Int} (h : Lib.TabIs P w name k zs) (hb : Below w.heap.size w W) : Lib.TabIs P W name k zs := by
  unfold Lib.TabIs World.var? at *
  cases hg : P.globalNamed name with
  | none => simp [hg] at h
  | some g =>
    simp only [hg, Option.bind_some] at h ⊢
    have hlt : g < w.heap.size := by
      rcases Nat.lt_or_ge g w.heap.size with h' | h'
      · exact h'
      · rw [Array.getElem?_eq_none h'] at h; simp at h
    rw [hb.block g hlt]
    exact h
def FnIs (P : Program) (f : FuncId) : Prop := ∃ fn, P.funcs[f]? = some fn ∧ (fn.name == "runtime.NumGoroutine") = false ∧ fn.body.isNone = false
theorem args_v {S : Nat → Prop} {W : World} {t : L} {ps : List PT} {x : pts (.v false .ro [t] :: ps)} {vs : List Value} (h : argsR S W (.v false .ro [t] :: ps) x vs) :
    ∃ v vs', vs = v :: vs' ∧ repL (roRow W S) t [(0, 0)] (hd (phd x)) v ∧ argsR S W ps (ptl x) vs' := by
  simp only [argsR, argR] at h
  obtain ⟨v, vs', rfl, ⟨cs, hc, hs⟩, h2⟩ := h
  obtain ⟨u, cs', rfl, hu, hn⟩ := repLs_cons.1 hc
  simp only [repLs] at hn
  subst hn
  simp only [slotV, Bool.false_eq_true, if_false] at hs
  obtain rfl : u = v := by simpa using hs
  exact ⟨u, vs', rfl, hu, h2⟩
theorem args_e {S : Nat → Prop} {W : World} {x : pts []} {vs : List Value} (h : argsR S W [] x vs) : vs = [] := h
theorem arr_of {vals : Array Value} {l : List Value} (h : vals.toList = l) : vals = l.toArray := by rw [← h]
theorem ct_lib {P : Program} {c : Ct} {w : World} (hf : FnIs P c.f)
    (h : ∀ (vals : Array Value) (x : pts c.ps) (S : Nat → Prop), (∀ b, S b → b < w.heap.size) → argsR S w c.ps x vals.toList → c.pre x →
      Calls P c.f vals w fun e w' => ∃ vs v, e = .returned v ∧ Below w.heap.size w w' ∧ retV vs v ∧ ∀ S', resR S' (fun _ => none) w' c.shared c.rs (c.F x) 0 vs) : CtAt P c w :=
  fun vals x S hS ha hp => ⟨hf, (h vals x S hS ha hp).mono fun e w' ⟨vs, v, he, hb, hv, hr⟩ => ⟨vs, v, fun _ => none, he, hb, hv, fun b hb => absurd rfl hb, hr _⟩⟩
theorem res_str {S : Nat → Prop} {col : Nat → Option Nat} {W : World} (x : ByteArray) : resR S col W false [(false, [.str])] (x : caps [[L.str]]) 0 [.string x] := by
  simp only [resR]
  exact ⟨_, _, [.string x], rfl, by simp only [outR]; exact ⟨_, _, rfl, rfl, rfl⟩, .inr rfl, rfl⟩
def itoaCt (f : FuncId) : Ct := { f, ps := [.v false .ro [.int .i64]], rs := [(false, [.str])], shared := false, pre := fun (x : Int) => pItoa x, F := fun (x : Int) => mItoa x }
theorem itoa_ct {P : Program} {f : FuncId} {w : World} (hf : FnIs P f)
    (hI : ∀ n : Int, -9223372036854775808 ≤ n → n ≤ 9223372036854775807 → Calls P f #[.int .i64 n] w fun e w' => e = .returned (.string ⟨(Lib.itoa n).toArray⟩) ∧ ∃ k os, w' = Sort.grow (w.drewN k) os) : CtAt P (itoaCt f) w := by
  refine ct_lib hf fun vals x S hS ha hp => ?_
  obtain ⟨v, vs', hv, h1, h2⟩ := args_v ha
  have h2 := args_e h2
  subst h2
  have h1 : v = .int .i64 x := h1
  subst h1
  rw [arr_of hv]
  refine (hI x hp.1 hp.2).mono fun e w' ⟨he, k, os, hw⟩ => ?_
  refine ⟨[.string (mItoa x)], _, he, ?_, Or.inl rfl, fun S' => res_str _⟩
  rw [hw]
  exact Lib.below_grow _ w (Nat.le_refl _) k os
end Go.Ev
end

section
/- Library functions: strings.Join, strings.Trim, strings.Cut, strings.IndexByte: contracts of the small machine. -/
set_option linter.unusedVariables false
namespace Go.Ev
open Go.RowKit
theorem cell_lt {w : World} {a : Addr} {v : Value} (h : w.cell? a = some v) : a.block < w.heap.size := by
  rcases Nat.lt_or_ge a.block w.heap.size with h' | h'
  · exact h'
  · unfold World.cell? at h
    rw [Array.getElem?_eq_none h'] at h
    simp at h
def trimLCt (f : FuncId) : Ct := { f, ps := [.v false .ro [.str], .v false .ro [.str]], rs := [(false, [.str])], shared := false, pre := fun (x : S × S) => pTrimL x.1 x.2, F := fun (x : S × S) => mTrimL x.1 x.2 }
theorem trimL_ct {P : Program} {f : FuncId} {w : World} (hf : FnIs P f)
    (hI : ∀ (s cs : ByteArray), s.size ≤ 9223372036854775807 → cs.size < 4294967281 → (∀ (j : Nat) b, cs.data.toList[j]? = some b → b.toNat < 128) →
      Calls P f #[.string s, .string cs] w fun e w' => e = .returned (.string ⟨(Lib.trimS s.data.toList cs.data.toList).toArray⟩) ∧ Below w.heap.size w w') : CtAt P (trimLCt f) w := by
  refine ct_lib hf fun vals x S hS ha hp => ?_
  obtain ⟨v, vs', hv, h1, h2⟩ := args_v ha
  obtain ⟨u, us', rfl, h3, h4⟩ := args_v h2
  have h4 := args_e h4
  subst h4
  have h1 : v = .string x.1 := h1
  have h3 : u = .string x.2 := h3
  subst h1; subst h3
  rw [arr_of hv]
  have hp : x.1.size ≤ 1073741824 ∧ x.2 = lit [32, 9] := hp
  obtain ⟨hp1, hp2⟩ := hp
  have hall : ∀ b ∈ (lit [32, 9]).data.toList, b.toNat < 128 := by decide
  refine (hI x.1 x.2 (by omega) (by rw [hp2]; decide) (fun j b hb => by rw [hp2] at hb; exact hall b (List.mem_of_getElem? hb))).mono fun e w' ⟨he, hb⟩ => ⟨[.string (mTrimL x.1 x.2)], _, he, hb, Or.inl rfl, fun S' => res_str _⟩
theorem joinL_tail (sep : S) : ∀ (x : S) (r : List S), bs (joinL sep (x :: r)) = bs x ++ Lib.joinTail (bs sep) (r.map bs)
  | x, [] => by simp [joinL, Lib.joinTail]
  | x, y :: r => by
    rw [joinL, bs_append, bs_append, joinL_tail sep y r]
    simp only [Lib.joinTail, List.map_cons, List.flatten_cons, List.append_assoc]
theorem mJoin_lib (xs : List S) (sep : S) : mJoin xs sep = ob (Lib.join (xs.map bs) (bs sep)) := by
  cases xs with
  | nil => rfl
  | cons x r =>
    refine bs_inj ?_
    rw [bs_ob, mJoin, joinL_tail, List.map_cons, Lib.join_cons]
theorem lens_sum : ∀ xs : List S, Lib.lens (xs.map bs) = sumN (xs.map fun x => x.size)
  | [] => rfl
  | x :: r => by
    have := lens_sum r
    unfold Lib.lens at this ⊢
    simp only [List.map_cons, List.sum_cons, sumN, bs_len] at this ⊢
    omega
theorem join_core {P : Program} {f : FuncId} {w : World} {S : Nat → Prop} (hS : ∀ b, S b → b < w.heap.size)
    (h0 : ∀ (a : Option Addr) (c : Nat) (sep : ByteArray), Calls P f #[.slice a 0 c, .string sep] w fun e w' => e = .returned (.string ⟨#[]⟩) ∧ w' = w)
    (hI : ∀ (bk o c : Nat) (xs : List ByteArray) (sep : ByteArray), (∀ (j : Nat) x, xs[j]? = some x → w.cell? ⟨bk, o + j, none⟩ = some (.string x)) → bk < w.heap.size → xs.length ≤ 140737488355328 → xs.length ≤ c → (Lib.join (xs.map (·.data.toList)) sep.data.toList).length ≤ 140737488355328 →
      Calls P f #[.slice (some ⟨bk, o, none⟩) xs.length c, .string sep] w fun e w' => e = .returned (.string ⟨(Lib.join (xs.map (·.data.toList)) sep.data.toList).toArray⟩) ∧ Below w.heap.size w w')
    (xs : List ByteArray) (sep : ByteArray) (hp : pJoin xs sep) (A : Option Addr) (cap : Nat) (cs : List Value) (hcap : xs.length ≤ cap) (hcl : cs.length = xs.length * 1)
    (hA : 0 < xs.length * 1 → ∃ ad, A = some ad ∧ S ad.block ∧ ∀ (j : Nat) (u : Value), cs[j]? = some u → w.cell? (ad.add j) = some u)
    (hx : ∀ (i : Nat) (y : ByteArray), xs[i]? = some y → (cs.drop (i * 1)).take 1 = [.string y]) :
    Calls P f #[.slice A xs.length cap, .string sep] w fun e w' => e = .returned (.string (mJoin xs sep)) ∧ Below w.heap.size w w' := by
  obtain ⟨hp1, hp2, hp3⟩ := hp
  by_cases hn : xs.length = 0
  · have : xs = [] := List.length_eq_zero_iff.1 hn
    subst this
    refine (h0 A cap sep).mono fun e w' ⟨he, hw⟩ => ⟨he, ?_⟩
    rw [hw]; exact Below.refl _ _
  · obtain ⟨ad, rfl, hb, hcells⟩ := hA (by omega)
    have hget : ∀ (j : Nat) (y : ByteArray), xs[j]? = some y → w.cell? (ad.add j) = some (.string y) := fun j y hj => by
      refine hcells j _ ?_
      have := congrArg (·[0]?) (hx j y hj)
      simpa [List.getElem?_take, List.getElem?_drop] using this
    have hx0 : xs[0]? = some (xs[0]'(by omega)) := List.getElem?_eq_getElem (by omega)
    have hsp := World.cell?_spot (hget 0 _ hx0)
    have hadd : ∀ j, ad.add j = ⟨ad.block, ad.off + j, none⟩ := fun j => by
      have : ad.spot = none := by
        rw [addr_zero] at hsp; exact hsp
      obtain ⟨b, o, s⟩ := ad
      simp only at this
      subst this
      unfold Addr.add
      split
      · rename_i h; subst h; rfl
      · rfl
    have had : ad = ⟨ad.block, ad.off, none⟩ := by have := hadd 0; rw [addr_zero] at this; exact this
    have hjl : (Lib.join (xs.map (·.data.toList)) sep.data.toList).length ≤ 140737488355328 := by
      cases xs with
      | nil => simp at hn
      | cons y r =>
        have h6 := Lib.join_length (bs y) (r.map bs) (bs sep)
        have h7 := lens_sum (y :: r)
        have h8 : (bs sep).length ≤ 16 := by rw [bs_len]; exact hp3
        have h9 : (bs sep).length * (r.map bs).length ≤ 16 * r.length := by rw [List.length_map]; exact Nat.mul_le_mul_right _ h8
        have h10 : (Lib.join ((y :: r).map bs) (bs sep)).length ≤ 140737488355328 := by
          rw [List.map_cons, h6]
          rw [List.map_cons] at h7
          simp only [List.length_cons] at hp1
          omega
        exact h10
    rw [had]
    refine (hI ad.block ad.off cap xs sep (fun j y hj => by rw [← hadd j]; exact hget j y hj) (hS _ hb) (by omega) hcap hjl).mono fun e w' ⟨he, hbel⟩ => ⟨?_, hbel⟩
    rw [he, mJoin_lib]; rfl
def joinCt (e : TypeId) (f : FuncId) : Ct := { f, ps := [.v false .ro [.list e [.str]], .v false .ro [.str]], rs := [(false, [.str])], shared := false, pre := fun (x : List S × S) => pJoin x.1 x.2, F := fun (x : List S × S) => mJoin x.1 x.2 }
theorem join_row {w : World} {S : Nat → Prop} {e : TypeId} {p : Col} {xs : List ByteArray} {v : Value} (h : repL (roRow w S) (.list e [.str]) p (xs : List (dens [L.str])) v) :
    ∃ (A : Option Addr) (cap : Nat) (cs : List Value), v = .slice A xs.length cap ∧ xs.length ≤ cap ∧ cs.length = xs.length * 1 ∧ (0 < xs.length * 1 → ∃ ad, A = some ad ∧ S ad.block ∧ ∀ (j : Nat) (u : Value), cs[j]? = some u → w.cell? (ad.add j) = some u) ∧
      ∀ (i : Nat) (y : ByteArray), xs[i]? = some y → (cs.drop (i * 1)).take 1 = [.string y] := by
  simp only [repL] at h
  obtain ⟨cs, ⟨A, cap, hv, hcap, hA⟩, hcl, hx⟩ := h
  refine ⟨A, cap, cs, hv, hcap, hcl, hA, fun i y hi => ?_⟩
  have h5 := hx i y hi
  simp only [repLs, repL] at h5
  obtain ⟨v, hv, rfl⟩ := h5
  exact hv
theorem join_ct {P : Program} {e : TypeId} {f : FuncId} {w : World} (hf : FnIs P f)
    (h0 : ∀ (a : Option Addr) (c : Nat) (sep : ByteArray), Calls P f #[.slice a 0 c, .string sep] w fun e w' => e = .returned (.string ⟨#[]⟩) ∧ w' = w)
    (hI : ∀ (bk o c : Nat) (xs : List ByteArray) (sep : ByteArray), (∀ (j : Nat) x, xs[j]? = some x → w.cell? ⟨bk, o + j, none⟩ = some (.string x)) → bk < w.heap.size → xs.length ≤ 140737488355328 → xs.length ≤ c → (Lib.join (xs.map (·.data.toList)) sep.data.toList).length ≤ 140737488355328 →
      Calls P f #[.slice (some ⟨bk, o, none⟩) xs.length c, .string sep] w fun e w' => e = .returned (.string ⟨(Lib.join (xs.map (·.data.toList)) sep.data.toList).toArray⟩) ∧ Below w.heap.size w w') : CtAt P (joinCt e f) w := by
  refine ct_lib hf fun vals x S hS ha hp => ?_
  obtain ⟨v, vs', hv, h1, h2⟩ := args_v ha
  obtain ⟨u, us', rfl, h3, h4⟩ := args_v h2
  have h4 := args_e h4
  subst h4
  have h3 : u = .string x.2 := h3
  subst h3
  obtain ⟨A, cap, cs, rfl, hcap, hcl, hA, hx⟩ := join_row (xs := x.1) h1
  rw [arr_of hv]
  exact (join_core hS h0 hI x.1 x.2 hp A cap cs hcap hcl hA hx).mono fun e w' ⟨he, hb⟩ => ⟨[.string (mJoin x.1 x.2)], _, he, hb, Or.inl rfl, fun S' => res_str _⟩
end Go.Ev
end

section
/- Library functions: strconv.Atoi, strings.TrimLeft, strings.Split: contracts of the small machine; what their variables hold. -/
set_option linter.unusedVariables false
namespace Go.Ev
open Go.RowKit
def ErrAt (g : Nat) (w : World) : Prop := ∃ ev, w.cell? ⟨g, 0, none⟩ = some ev ∧ (ev = .nilIface ∨ ∃ te pe, ev = .iface te pe)
theorem errAt_below {g : Nat} {w w' : World} (h : ErrAt g w) (hb : Below w.heap.size w w') : ErrAt g w' := by
  obtain ⟨ev, h1, h2⟩ := h
  exact ⟨ev, (hb.cell (cell_lt h1)).trans h1, h2⟩
def NumAt (g : Nat) (w : World) : Prop := ∃ m, w.cell? ⟨g, 0, none⟩ = some (.int .i64 m)
theorem numAt_below {g : Nat} {w w' : World} (h : NumAt g w) (hb : Below w.heap.size w w') : NumAt g w' := by
  obtain ⟨m, hm⟩ := h
  exact ⟨m, (hb.cell (cell_lt hm)).trans hm⟩
def atoiV (s : S) : Int := match Lib.atoiAll (bs s) with
  | .ok v => v
  | .«syntax» => 0
  | .range => Lib.atoiSat (bs s)
def mAtoi (s : S) : Int × Unit := (atoiV s, ())
def pAtoi (s : S) : Prop := sm s
def atoiCt (f : FuncId) : Ct := { f, ps := [.v false .ro [.str]], rs := [(false, [.int .i64]), (false, [])], shared := false, pre := fun (x : S) => pAtoi x, F := fun (x : S) => mAtoi x }
theorem res_any {S : Nat → Prop} {col : Nat → Option Nat} {W : World} {k : IntKind} (x : Int) (v : Value) : resR S col W false [(false, [.int k]), (false, [])] ((x, ()) : Int × Unit) 0 [.int k x, v] := by
  simp only [resR]
  refine ⟨_, _, [.int k x], rfl, by simp only [outR]; exact ⟨_, _, rfl, rfl, rfl⟩, .inr rfl, ?_⟩
  exact ⟨_, _, [], rfl, rfl, .inl rfl, rfl⟩
theorem atoi_ct {P : Program} {f : FuncId} {w : World} {gS gR : Nat} (hf : FnIs P f) (hS : ErrAt gS w) (hR : ErrAt gR w)
    (hok : ∀ (s : ByteArray), s.size ≤ 9223372036854775806 → ∀ v, Lib.atoiAll s.data.toList = .ok v → Calls P f #[.string s] w fun e w' => e = .returned (.tuple #[.int .i64 v, .nilIface]) ∧ Below w.heap.size w w')
    (hsy : ∀ (s : ByteArray), s.size ≤ 281474976710656 → Lib.atoiAll s.data.toList = .«syntax» → ∀ ev, w.cell? ⟨gS, 0, none⟩ = some ev → (ev = .nilIface ∨ ∃ te pe, ev = .iface te pe) → Calls P f #[.string s] w fun e w' => ∃ u, e = .returned (.tuple #[.int .i64 0, u]) ∧ Below w.heap.size w w')
    (hra : ∀ (s : ByteArray), s.size ≤ 281474976710656 → Lib.atoiAll s.data.toList = .range → ∀ ev, w.cell? ⟨gR, 0, none⟩ = some ev → (ev = .nilIface ∨ ∃ te pe, ev = .iface te pe) → Calls P f #[.string s] w fun e w' => ∃ u, e = .returned (.tuple #[.int .i64 (Lib.atoiSat s.data.toList), u]) ∧ Below w.heap.size w w') : CtAt P (atoiCt f) w := by
  refine ct_lib hf fun vals x S hSS ha hp => ?_
  obtain ⟨v, vs', hv, h1, h2⟩ := args_v ha
  have h2 := args_e h2
  subst h2
  have h1 : v = .string x := h1
  subst h1
  rw [arr_of hv]
  have hp : x.size ≤ 1073741824 := hp
  cases hat : Lib.atoiAll x.data.toList with
  | ok n =>
    refine (hok x (by omega) n hat).mono fun e w' ⟨he, hb⟩ => ⟨[.int .i64 n, .nilIface], _, he, hb, Or.inr ⟨by simp, rfl⟩, fun S' => ?_⟩
    have e : atoiV x = n := by unfold atoiV bs; rw [hat]
    show resR S' _ _ false [(false, [.int .i64]), (false, [])] ((atoiV x, ()) : Int × Unit) 0 _
    rw [e]
    exact res_any n _
  | «syntax» =>
    obtain ⟨ev, c1, c2⟩ := hS
    refine (hsy x (by omega) hat ev c1 c2).mono fun e w' ⟨u, he, hb⟩ => ⟨[.int .i64 0, u], _, he, hb, Or.inr ⟨by simp, rfl⟩, fun S' => ?_⟩
    have e : atoiV x = 0 := by unfold atoiV bs; rw [hat]
    show resR S' _ _ false [(false, [.int .i64]), (false, [])] ((atoiV x, ()) : Int × Unit) 0 _
    rw [e]
    exact res_any 0 _
  | range =>
    obtain ⟨ev, c1, c2⟩ := hR
    refine (hra x (by omega) hat ev c1 c2).mono fun e w' ⟨u, he, hb⟩ => ⟨[.int .i64 (Lib.atoiSat x.data.toList), u], _, he, hb, Or.inr ⟨by simp, rfl⟩, fun S' => ?_⟩
    have e : atoiV x = Lib.atoiSat x.data.toList := by unfold atoiV bs; rw [hat]
    show resR S' _ _ false [(false, [.int .i64]), (false, [])] ((atoiV x, ()) : Int × Unit) 0 _
    rw [e]
    exact res_any _ _
def mSplit (s sep : S) : List S := Lib.splitB sep 0 (Lib.countB s sep) s
def pSplit (s sep : S) : Prop := sm s ∧ sep = lit [32]
end Go.Ev
end

section
/- The plain library: what the functions of dates compute. -/
set_option linter.unusedVariables false
namespace Go.Ev
def mIsLeap (y : Int) : Bool := decide (y % 4 = 0) && (decide (y % 100 ≠ 0) || decide (y % 400 = 0))
def pIsLeap (y : Int) : Prop := 0 ≤ y
def mL4Months (y : Int) : List Int := if mIsLeap y = true then [31, 29, 31, 30, 31, 30, 31, 31, 30, 31, 30, 31] else [31, 28, 31, 30, 31, 30, 31, 31, 30, 31, 30, 31]
def pL4Months (y : Int) : Prop := 0 ≤ y
def mMonthDays (y m : Int) : Int := rx (mL4Months y) (m - 1)
def pMonthDays (y m : Int) : Prop := 0 ≤ y ∧ 1 ≤ m ∧ m ≤ 12
def mYearDays (y : Int) : Int := if mIsLeap y = true then 366 else 365
def pYearDays (y : Int) : Prop := 0 ≤ y
def daysY : Nat → Int
  | 0 => 0
  | k + 1 => daysY k + mYearDays (1970 + (k : Int))
def daysM (y : Int) : Nat → Int
  | 0 => 0
  | k + 1 => daysM y k + mMonthDays y ((k : Int) + 1)
def mDaysOf (y m d : Int) : Int := if (mIn y 1970 2037 && mIn m 1 12 && mIn d 1 (mMonthDays y m)) = true then d - 1 + daysY (y - 1970).toNat + daysM y (m - 1).toNat else -1
def pDaysOf (y m d : Int) : Prop := True
def twoL (n : Nat) : List UInt8 := [UInt8.ofNat (48 + n / 10), UInt8.ofNat (48 + n % 10)]
def mTwo (n : Int) : S := ob (twoL n.toNat)
def pTwo (n : Int) : Prop := 0 ≤ n ∧ n ≤ 99
def mL4Two (n : Int) : S := mTwo n
def pL4Two (n : Int) : Prop := 0 ≤ n ∧ n ≤ 99
def weekL : List S := [(lit [84, 104, 117]), (lit [70, 114, 105]), (lit [83, 97, 116]), (lit [83, 117, 110]), (lit [77, 111, 110]), (lit [84, 117, 101]), (lit [87, 101, 100])]
def monthL : List S := [(lit [74, 97, 110]), (lit [70, 101, 98]), (lit [77, 97, 114]), (lit [65, 112, 114]), (lit [77, 97, 121]), (lit [74, 117, 110]), (lit [74, 117, 108]), (lit [65, 117, 103]), (lit [83, 101, 112]), (lit [79, 99, 116]), (lit [78, 111, 118]), (lit [68, 101, 99])]
def mMonths (_ : Unit) : List S := monthL
def pMonths (_ : Unit) : Prop := True
def yearL (y : Nat) : List UInt8 := [UInt8.ofNat (48 + y / 1000), UInt8.ofNat (48 + y / 100 % 10), UInt8.ofNat (48 + y / 10 % 10), UInt8.ofNat (48 + y % 10)]
def showT (a y j d : Int) : S :=
  ((((((((((((((rx weekL (a / 86400 % 7)) ++ (lit [44, 32])) ++ mTwo d) ++ (lit [32])) ++ rx monthL j) ++ (lit [32])) ++ mDec y) ++ (lit [32])) ++ mTwo (a / 3600 % 24)) ++ (lit [58])) ++ mTwo (a / 60 % 60)) ++ (lit [58])) ++ mTwo (a % 60)) ++ (lit [32, 71, 77, 84]))
def civil (n : Int) (k j : Nat) : Prop := k < 67 ∧ j < 12 ∧ daysY k + daysM (1970 + (k : Int)) j ≤ n ∧ n < daysY k + daysM (1970 + (k : Int)) (j + 1)
open Classical in
noncomputable def mShowDate (a : Int) : S :=
  if h : 0 ≤ a ∧ a ≤ 2000000000 ∧ ∃ p : Nat × Nat, civil (a / 86400) p.1 p.2 then
    showT a (1970 + ((Classical.choose h.2.2).1 : Int)) ((Classical.choose h.2.2).2 : Int) (a / 86400 - daysY (Classical.choose h.2.2).1 - daysM (1970 + ((Classical.choose h.2.2).1 : Int)) (Classical.choose h.2.2).2 + 1)
  else lit []
def pShowDate (a : Int) : Prop := in64 a
end Go.Ev
end

section
/- The plain library: how dates and seconds are read. -/
set_option linter.unusedVariables false
namespace Go.Ev
def isDig (b : UInt8) : Bool := decide (48 ≤ b.toNat ∧ b.toNat ≤ 57)
def valFrom (a : Nat) (l : List UInt8) : Nat := l.foldl (fun a b => a * 10 + (b.toNat - 48)) a
def valL (l : List UInt8) : Nat := valFrom 0 l
def numL (l : List UInt8) : Int := if l.all isDig = true then (valL l : Int) else -1
def mL4Num (s : S) (i n : Int) : Int := numL (((bs s).drop i.toNat).take n.toNat)
def pL4Num (s : S) (i n : Int) : Prop := 0 ≤ i ∧ 0 ≤ n ∧ n ≤ 4 ∧ i + n ≤ (s.size : Int) ∧ sm s
def mNumber (s : S) : Int := if (bs s).all isDig = true then atoiV s else -1
def pNumber (s : S) : Prop := sm s
def isDate (s : S) (t : Int) : Prop := 0 ≤ t ∧ t ≤ 2000000000 ∧ mShowDate t = s
open Classical in
noncomputable def mReadDate (s : S) : Int × Bool := if h : ∃ t, isDate s t then (Classical.choose h, true) else (0, false)
def pReadDate (s : S) : Prop := sm s
noncomputable def mDateOf (l : List Fld) (n : S) : Int × Bool := if (mFieldGet l n).2 = true then mReadDate (mFieldGet l n).1 else (0, false)
def pDateOf (l : List Fld) (n : S) : Prop := md l
def monU (n : S) : Nat → Int
  | 0 => 0
  | i + 1 => if n = rx monthL (i : Int) then ((i + 1 : Nat) : Int) else monU n i
end Go.Ev
end

section
/- The plain library: lifetimes, ages, what is fresh, what is not modified. -/
set_option linter.unusedVariables false
namespace Go.Ev
def sModSince : S := lit [105, 102, 45, 109, 111, 100, 105, 102, 105, 101, 100, 45, 115, 105, 110, 99, 101]
def sNoMatch : S := lit [105, 102, 45, 110, 111, 110, 101, 45, 109, 97, 116, 99, 104]
def mHasPrefix (s p : S) : Bool := decide (p.size ≤ s.size) && decide (s.extract 0 p.size = p)
def pHasPrefix (s p : S) : Prop := True
def mCutPrefix (s p : S) : S × Bool := if mHasPrefix s p = true then (s.extract p.size s.size, true) else (s, false)
def pCutPrefix (s p : S) : Prop := True
def mStrong (s : S) : S := if 2 < s.size ∧ s.extract 0 2 = lit [87, 47] then s.extract 2 s.size else s
def pStrong (s : S) : Prop := sm s
def mNotModified_1 (x t : S) : Bool := decide (x = lit [42]) || decide (mStrong x = mStrong t)
def pNotModified_1 (x t : S) : Prop := sm x ∧ sm t
def mIndexFunc_NotModified_1 (l : List S) (t : S) : Int := idxI (fun x => mNotModified_1 x t) l
def pIndexFunc_NotModified_1 (l : List S) (t : S) : Prop := l.length ≤ maxLen ∧ (∀ x, x ∈ l → sm x) ∧ sm t
def mContainsFunc_NotModified_1 (l : List S) (t : S) : Bool := l.any fun x => mNotModified_1 x t
def pContainsFunc_NotModified_1 (l : List S) (t : S) : Prop := l.length ≤ maxLen ∧ (∀ x, x ∈ l → sm x) ∧ sm t
noncomputable def mNotModified (q : Req) (t : S) (m : Int) : Bool :=
  if (mFieldGet q.2.2.1 sNoMatch).2 = true then (mSplitList (mFieldGet q.2.2.1 sNoMatch).1).any fun x => mNotModified_1 x t
  else (mDateOf q.2.2.1 sModSince).2 && mIn m 0 (mDateOf q.2.2.1 sModSince).1
def pNotModified (q : Req) (t : S) (m : Int) : Prop := md q.2.2.1 ∧ sm t
end Go.Ev
end

section
/- What the program's functions come to, each by itself: printed by a program of this session's own (EwShow) out of the small machine. -/
set_option linter.unusedVariables false
namespace Go.Ev

def s_ContainsFunc_NotModified_1 (a0 : (List S)) (a1 : S) (Q : (Bool → Prop)) : Prop :=
  pIndexFunc_NotModified_1 a0 a1 ∧
  (Q (decide (0 ≤ (mIndexFunc_NotModified_1 a0 a1))))

def s_IndexFunc_NotModified_1 (a0 : (List S)) (a1 : S) (Q : (Int → Prop)) : Prop :=
  (∀ L0 : (Int → Prop),
    ((
        (∀ y1 : Int,
          ((
              (y1 < (a0.length : Int) →
                0 ≤ y1 ∧
                y1 < (a0.length : Int) ∧
                pNotModified_1 (rx a0 y1) a1 ∧
                ((mNotModified_1 (rx a0 y1) a1) = true →
                  (Q y1)) ∧
                (¬ ((mNotModified_1 (rx a0 y1) a1) = true) →
                  (L0 (IntKind.i64.wrap (y1 + 1))))) ∧
              (¬ (y1 < (a0.length : Int)) →
                (Q (-1)))
            ) →
            (L0 y1)))
      ) →
      (L0 0)))

def s_impl_NotModified (a0 : Req) (a1 : S) (a2 : Int) (Q : (Bool → Prop)) : Prop :=
  pFieldGet a0.2.2.1 (lit [105, 102, 45, 110, 111, 110, 101, 45, 109, 97, 116, 99, 104]) ∧
  ((mFieldGet a0.2.2.1 (lit [105, 102, 45, 110, 111, 110, 101, 45, 109, 97, 116, 99, 104])).2 = true →
    pSplitList (mFieldGet a0.2.2.1 (lit [105, 102, 45, 110, 111, 110, 101, 45, 109, 97, 116, 99, 104])).1 ∧
    pContainsFunc_NotModified_1 (mSplitList (mFieldGet a0.2.2.1 (lit [105, 102, 45, 110, 111, 110, 101, 45, 109, 97, 116, 99, 104])).1) a1 ∧
    (Q (mContainsFunc_NotModified_1 (mSplitList (mFieldGet a0.2.2.1 (lit [105, 102, 45, 110, 111, 110, 101, 45, 109, 97, 116, 99, 104])).1) a1))) ∧
  (¬ ((mFieldGet a0.2.2.1 (lit [105, 102, 45, 110, 111, 110, 101, 45, 109, 97, 116, 99, 104])).2 = true) →
    pDateOf a0.2.2.1 (lit [105, 102, 45, 109, 111, 100, 105, 102, 105, 101, 100, 45, 115, 105, 110, 99, 101]) ∧
    ((mDateOf a0.2.2.1 (lit [105, 102, 45, 109, 111, 100, 105, 102, 105, 101, 100, 45, 115, 105, 110, 99, 101])).2 = true →
      pIn a2 0 (mDateOf a0.2.2.1 (lit [105, 102, 45, 109, 111, 100, 105, 102, 105, 101, 100, 45, 115, 105, 110, 99, 101])).1 ∧
      (Q (mIn a2 0 (mDateOf a0.2.2.1 (lit [105, 102, 45, 109, 111, 100, 105, 102, 105, 101, 100, 45, 115, 105, 110, 99, 101])).1))) ∧
    (¬ ((mDateOf a0.2.2.1 (lit [105, 102, 45, 109, 111, 100, 105, 102, 105, 101, 100, 45, 115, 105, 110, 99, 101])).2 = true) →
      (Q false)))

def s_impl_NotModified_1 (a0 : S) (a1 : S) (Q : (Bool → Prop)) : Prop :=
  (a0 = (lit [42]) →
    (Q true)) ∧
  (¬ (a0 = (lit [42])) →
    pStrong a0 ∧
    pStrong a1 ∧
    (Q (decide ((mStrong a0) = (mStrong a1)))))

def s_impl_strong (a0 : S) (Q : (S → Prop)) : Prop :=
  pCutPrefix a0 (lit [87, 47]) ∧
  (¬ ((mCutPrefix a0 (lit [87, 47])).2 = true) →
    (Q a0)) ∧
  (¬ (¬ ((mCutPrefix a0 (lit [87, 47])).2 = true)) →
    ((mCutPrefix a0 (lit [87, 47])).1 = (lit []) →
      (Q a0)) ∧
    (¬ ((mCutPrefix a0 (lit [87, 47])).1 = (lit [])) →
      (Q (mCutPrefix a0 (lit [87, 47])).1)))

def s_laws_FnExactNotModified (a0 : Req) (a1 : S) (a2 : Int) (Q : (Bool → Prop)) : Prop :=
  (1048576 < (a1.size : Int) →
    (Q true)) ∧
  (¬ (1048576 < (a1.size : Int)) →
    pSz a0 1048576 ∧
    ((szF a0 1048576) < 0 →
      (Q true)) ∧
    (¬ ((szF a0 1048576) < 0) →
      pTo a0 ∧
      pNotModified (toF a0) a1 a2 ∧
      pTo a0 ∧
      pNotModified (toF a0) a1 a2 ∧
      ((mNotModified (toF a0) a1 a2) ≠ (mNotModified (toF a0) a1 a2) →
        (Q false)) ∧
      (¬ ((mNotModified (toF a0) a1 a2) ≠ (mNotModified (toF a0) a1 a2)) →
        pTo a0 ∧
        pEq (toF a0) (toF a0) ∧
        (¬ ((eqF (toF a0) (toF a0)) = true) →
          (Q false)) ∧
        (¬ (¬ ((eqF (toF a0) (toF a0)) = true)) →
          (Q true)))))

def s_spec_NotModified (a0 : Req) (a1 : S) (a2 : Int) (Q : (Bool → Prop)) : Prop :=
  pFieldGet a0.2.2.1 (lit [105, 102, 45, 110, 111, 110, 101, 45, 109, 97, 116, 99, 104]) ∧
  ((mFieldGet a0.2.2.1 (lit [105, 102, 45, 110, 111, 110, 101, 45, 109, 97, 116, 99, 104])).2 = true →
    pSplitList (mFieldGet a0.2.2.1 (lit [105, 102, 45, 110, 111, 110, 101, 45, 109, 97, 116, 99, 104])).1 ∧
    (∀ L0 : (Int → Prop),
      ((
          (∀ y1 : Int,
            ((
                (y1 < ((mSplitList (mFieldGet a0.2.2.1 (lit [105, 102, 45, 110, 111, 110, 101, 45, 109, 97, 116, 99, 104])).1).length : Int) →
                  0 ≤ y1 ∧
                  y1 < ((mSplitList (mFieldGet a0.2.2.1 (lit [105, 102, 45, 110, 111, 110, 101, 45, 109, 97, 116, 99, 104])).1).length : Int) ∧
                  ((rx (mSplitList (mFieldGet a0.2.2.1 (lit [105, 102, 45, 110, 111, 110, 101, 45, 109, 97, 116, 99, 104])).1) y1) = (lit [42]) →
                    (Q true)) ∧
                  (¬ ((rx (mSplitList (mFieldGet a0.2.2.1 (lit [105, 102, 45, 110, 111, 110, 101, 45, 109, 97, 116, 99, 104])).1) y1) = (lit [42])) →
                    0 ≤ y1 ∧
                    y1 < ((mSplitList (mFieldGet a0.2.2.1 (lit [105, 102, 45, 110, 111, 110, 101, 45, 109, 97, 116, 99, 104])).1).length : Int) ∧
                    pStrong (rx (mSplitList (mFieldGet a0.2.2.1 (lit [105, 102, 45, 110, 111, 110, 101, 45, 109, 97, 116, 99, 104])).1) y1) ∧
                    pStrong a1 ∧
                    ((mStrong (rx (mSplitList (mFieldGet a0.2.2.1 (lit [105, 102, 45, 110, 111, 110, 101, 45, 109, 97, 116, 99, 104])).1) y1)) = (mStrong a1) →
                      (Q true)) ∧
                    (¬ ((mStrong (rx (mSplitList (mFieldGet a0.2.2.1 (lit [105, 102, 45, 110, 111, 110, 101, 45, 109, 97, 116, 99, 104])).1) y1)) = (mStrong a1)) →
                      (L0 (IntKind.i64.wrap (y1 + 1)))))) ∧
                (¬ (y1 < ((mSplitList (mFieldGet a0.2.2.1 (lit [105, 102, 45, 110, 111, 110, 101, 45, 109, 97, 116, 99, 104])).1).length : Int)) →
                  (Q false))
              ) →
              (L0 y1)))
        ) →
        (L0 0)))) ∧
  (¬ ((mFieldGet a0.2.2.1 (lit [105, 102, 45, 110, 111, 110, 101, 45, 109, 97, 116, 99, 104])).2 = true) →
    pDateOf a0.2.2.1 (lit [105, 102, 45, 109, 111, 100, 105, 102, 105, 101, 100, 45, 115, 105, 110, 99, 101]) ∧
    ((mDateOf a0.2.2.1 (lit [105, 102, 45, 109, 111, 100, 105, 102, 105, 101, 100, 45, 115, 105, 110, 99, 101])).2 = true →
      (0 ≤ a2 →
        (Q (decide (a2 ≤ (mDateOf a0.2.2.1 (lit [105, 102, 45, 109, 111, 100, 105, 102, 105, 101, 100, 45, 115, 105, 110, 99, 101])).1)))) ∧
      (¬ (0 ≤ a2) →
        (Q false))) ∧
    (¬ ((mDateOf a0.2.2.1 (lit [105, 102, 45, 109, 111, 100, 105, 102, 105, 101, 100, 45, 115, 105, 110, 99, 101])).2 = true) →
      (Q false)))

def s_spec_l11Weak (a0 : S) (Q : (S → Prop)) : Prop :=
  (2 < (a0.size : Int) →
    (0 : Int) ≤ 2 ∧
    2 ≤ (a0.size : Int) ∧
    ((a0.extract 0 ((2 : Int).toNat)) = (lit [87, 47]) →
      (0 : Int) ≤ 2 ∧
      2 ≤ (a0.size : Int) ∧
      (Q (a0.extract ((2 : Int).toNat) a0.size))) ∧
    (¬ ((a0.extract 0 ((2 : Int).toNat)) = (lit [87, 47])) →
      (Q a0))) ∧
  (¬ (2 < (a0.size : Int)) →
    (Q a0))

def s_strings_cutPrefix (a0 : S) (a1 : S) (Q : ((S × Bool) → Prop)) : Prop :=
  pCutPrefix a0 a1 ∧
  (Q (mCutPrefix a0 a1))

def s_stringslite_CutPrefix (a0 : S) (a1 : S) (Q : ((S × Bool) → Prop)) : Prop :=
  pHasPrefix a0 a1 ∧
  (¬ ((mHasPrefix a0 a1) = true) →
    (Q (a0, false))) ∧
  (¬ (¬ ((mHasPrefix a0 a1) = true)) →
    0 ≤ (a1.size : Int) ∧
    (a1.size : Int) ≤ (a0.size : Int) ∧
    (Q ((a0.extract (a1.size : Int).toNat a0.size), true)))

def s_stringslite_HasPrefix (a0 : S) (a1 : S) (Q : (Bool → Prop)) : Prop :=
  ((a1.size : Int) ≤ (a0.size : Int) →
    0 ≤ (a1.size : Int) ∧
    (a1.size : Int) ≤ (a0.size : Int) ∧
    (Q (decide ((a0.extract 0 (a1.size : Int).toNat) = a1)))) ∧
  (¬ ((a1.size : Int) ≤ (a0.size : Int)) →
    (Q false))

end Go.Ev
end

section
/- What the functions that read dates come to: printed by a program of this session's own (EwShow) out of the small machine. -/
set_option linter.unusedVariables false
namespace Go.Ev

def s_impl_DateOf (a0 : (List Fld)) (a1 : S) (Q : ((Int × Bool) → Prop)) : Prop :=
  pFieldGet a0 a1 ∧
  (¬ ((mFieldGet a0 a1).2 = true) →
    (Q (0, false))) ∧
  (¬ (¬ ((mFieldGet a0 a1).2 = true)) →
    pReadDate (mFieldGet a0 a1).1 ∧
    (Q (mReadDate (mFieldGet a0 a1).1)))

def s_impl_ReadDate (a0 : S) (Q : ((Int × Bool) → Prop)) : Prop :=
  pSplit a0 (lit [32]) ∧
  (((mSplit a0 (lit [32])).length : Int) ≠ 6 →
    (Q (0, false))) ∧
  (¬ (((mSplit a0 (lit [32])).length : Int) ≠ 6) →
    ((a0.size : Int) ≠ 29 →
      (Q (0, false))) ∧
    (¬ ((a0.size : Int) ≠ 29) →
      (0 : Int) ≤ 4 ∧
      4 < ((mSplit a0 (lit [32])).length : Int) ∧
      (((rx (mSplit a0 (lit [32])) 4).size : Int) ≠ 8 →
        (Q (0, false))) ∧
      (¬ (((rx (mSplit a0 (lit [32])) 4).size : Int) ≠ 8) →
        (0 : Int) ≤ 3 ∧
        3 < ((mSplit a0 (lit [32])).length : Int) ∧
        (((rx (mSplit a0 (lit [32])) 3).size : Int) ≠ 4 →
          (Q (0, false))) ∧
        (¬ (((rx (mSplit a0 (lit [32])) 3).size : Int) ≠ 4) →
          (0 : Int) ≤ 4 ∧
          4 < ((mSplit a0 (lit [32])).length : Int) ∧
          (0 : Int) ≤ 3 ∧
          3 < ((mSplit a0 (lit [32])).length : Int) ∧
          pNumber (rx (mSplit a0 (lit [32])) 3) ∧
          pMonths () ∧
          (0 : Int) ≤ 2 ∧
          2 < ((mSplit a0 (lit [32])).length : Int) ∧
          pIndex_string monthL (rx (mSplit a0 (lit [32])) 2) ∧
          (0 : Int) ≤ 1 ∧
          1 < ((mSplit a0 (lit [32])).length : Int) ∧
          pNumber (rx (mSplit a0 (lit [32])) 1) ∧
          pDaysOf (mNumber (rx (mSplit a0 (lit [32])) 3)) (IntKind.i64.wrap ((mIndex_string monthL (rx (mSplit a0 (lit [32])) 2)) + 1)) (mNumber (rx (mSplit a0 (lit [32])) 1)) ∧
          ((mDaysOf (mNumber (rx (mSplit a0 (lit [32])) 3)) (IntKind.i64.wrap ((mIndex_string monthL (rx (mSplit a0 (lit [32])) 2)) + 1)) (mNumber (rx (mSplit a0 (lit [32])) 1))) < 0 →
            (Q (0, false))) ∧
          (¬ ((mDaysOf (mNumber (rx (mSplit a0 (lit [32])) 3)) (IntKind.i64.wrap ((mIndex_string monthL (rx (mSplit a0 (lit [32])) 2)) + 1)) (mNumber (rx (mSplit a0 (lit [32])) 1))) < 0) →
            (0 : Int) ≤ 2 ∧
            2 ≤ ((rx (mSplit a0 (lit [32])) 4).size : Int) ∧
            pNumber ((rx (mSplit a0 (lit [32])) 4).extract 0 ((2 : Int).toNat)) ∧
            (0 : Int) ≤ 3 ∧
            (3 : Int) ≤ 5 ∧
            5 ≤ ((rx (mSplit a0 (lit [32])) 4).size : Int) ∧
            pNumber ((rx (mSplit a0 (lit [32])) 4).extract ((3 : Int).toNat) ((5 : Int).toNat)) ∧
            (0 : Int) ≤ 6 ∧
            6 ≤ ((rx (mSplit a0 (lit [32])) 4).size : Int) ∧
            pNumber ((rx (mSplit a0 (lit [32])) 4).extract ((6 : Int).toNat) (rx (mSplit a0 (lit [32])) 4).size) ∧
            pShowDate (IntKind.i64.wrap ((IntKind.i64.wrap ((IntKind.i64.wrap ((IntKind.i64.wrap ((mDaysOf (mNumber (rx (mSplit a0 (lit [32])) 3)) (IntKind.i64.wrap ((mIndex_string monthL (rx (mSplit a0 (lit [32])) 2)) + 1)) (mNumber (rx (mSplit a0 (lit [32])) 1))) * 86400)) + (IntKind.i64.wrap (3600 * (mNumber ((rx (mSplit a0 (lit [32])) 4).extract 0 ((2 : Int).toNat))))))) + (IntKind.i64.wrap (60 * (mNumber ((rx (mSplit a0 (lit [32])) 4).extract ((3 : Int).toNat) ((5 : Int).toNat))))))) + (mNumber ((rx (mSplit a0 (lit [32])) 4).extract ((6 : Int).toNat) (rx (mSplit a0 (lit [32])) 4).size)))) ∧
            ((mShowDate (IntKind.i64.wrap ((IntKind.i64.wrap ((IntKind.i64.wrap ((IntKind.i64.wrap ((mDaysOf (mNumber (rx (mSplit a0 (lit [32])) 3)) (IntKind.i64.wrap ((mIndex_string monthL (rx (mSplit a0 (lit [32])) 2)) + 1)) (mNumber (rx (mSplit a0 (lit [32])) 1))) * 86400)) + (IntKind.i64.wrap (3600 * (mNumber ((rx (mSplit a0 (lit [32])) 4).extract 0 ((2 : Int).toNat))))))) + (IntKind.i64.wrap (60 * (mNumber ((rx (mSplit a0 (lit [32])) 4).extract ((3 : Int).toNat) ((5 : Int).toNat))))))) + (mNumber ((rx (mSplit a0 (lit [32])) 4).extract ((6 : Int).toNat) (rx (mSplit a0 (lit [32])) 4).size))))) ≠ a0 →
              (Q (0, false))) ∧
            (¬ ((mShowDate (IntKind.i64.wrap ((IntKind.i64.wrap ((IntKind.i64.wrap ((IntKind.i64.wrap ((mDaysOf (mNumber (rx (mSplit a0 (lit [32])) 3)) (IntKind.i64.wrap ((mIndex_string monthL (rx (mSplit a0 (lit [32])) 2)) + 1)) (mNumber (rx (mSplit a0 (lit [32])) 1))) * 86400)) + (IntKind.i64.wrap (3600 * (mNumber ((rx (mSplit a0 (lit [32])) 4).extract 0 ((2 : Int).toNat))))))) + (IntKind.i64.wrap (60 * (mNumber ((rx (mSplit a0 (lit [32])) 4).extract ((3 : Int).toNat) ((5 : Int).toNat))))))) + (mNumber ((rx (mSplit a0 (lit [32])) 4).extract ((6 : Int).toNat) (rx (mSplit a0 (lit [32])) 4).size))))) ≠ a0) →
              (Q ((IntKind.i64.wrap ((IntKind.i64.wrap ((IntKind.i64.wrap ((IntKind.i64.wrap ((mDaysOf (mNumber (rx (mSplit a0 (lit [32])) 3)) (IntKind.i64.wrap ((mIndex_string monthL (rx (mSplit a0 (lit [32])) 2)) + 1)) (mNumber (rx (mSplit a0 (lit [32])) 1))) * 86400)) + (IntKind.i64.wrap (3600 * (mNumber ((rx (mSplit a0 (lit [32])) 4).extract 0 ((2 : Int).toNat))))))) + (IntKind.i64.wrap (60 * (mNumber ((rx (mSplit a0 (lit [32])) 4).extract ((3 : Int).toNat) ((5 : Int).toNat))))))) + (mNumber ((rx (mSplit a0 (lit [32])) 4).extract ((6 : Int).toNat) (rx (mSplit a0 (lit [32])) 4).size)))), true))))))))

def s_impl_number (a0 : S) (Q : (Int → Prop)) : Prop :=
  (∀ L0 : (Int → Prop),
    ((
        (∀ y1 : Int,
          ((
              (y1 < (a0.size : Int) →
                0 ≤ y1 ∧
                y1 < (a0.size : Int) ∧
                ((bt a0 y1) < 48 →
                  (Q (-1))) ∧
                (¬ ((bt a0 y1) < 48) →
                  0 ≤ y1 ∧
                  y1 < (a0.size : Int) ∧
                  (57 < (bt a0 y1) →
                    (Q (-1))) ∧
                  (¬ (57 < (bt a0 y1)) →
                    (L0 (IntKind.i64.wrap (y1 + 1)))))) ∧
              (¬ (y1 < (a0.size : Int)) →
                pAtoi a0 ∧
                (Q (mAtoi a0).1))
            ) →
            (L0 y1)))
      ) →
      (L0 0)))

def s_spec_DateOf (a0 : (List Fld)) (a1 : S) (Q : ((Int × Bool) → Prop)) : Prop :=
  pFieldGet a0 a1 ∧
  (¬ ((mFieldGet a0 a1).2 = true) →
    (Q (0, false))) ∧
  (¬ (¬ ((mFieldGet a0 a1).2 = true)) →
    pReadDate (mFieldGet a0 a1).1 ∧
    (Q (mReadDate (mFieldGet a0 a1).1)))

def s_spec_ReadDate (a0 : S) (Q : ((Int × Bool) → Prop)) : Prop :=
  ((a0.size : Int) ≠ 29 →
    (Q (0, false))) ∧
  (¬ ((a0.size : Int) ≠ 29) →
    (∀ L0 : ((Int × Int) → Prop),
      ((
          (∀ y1 : (Int × Int),
            ((
                (y1.2 ≤ 12 →
                  (0 : Int) ≤ 8 ∧
                  (8 : Int) ≤ 11 ∧
                  11 ≤ (a0.size : Int) ∧
                  0 ≤ (IntKind.i64.wrap (y1.2 - 1)) ∧
                  (IntKind.i64.wrap (y1.2 - 1)) < (monthL.length : Int) ∧
                  ((a0.extract ((8 : Int).toNat) ((11 : Int).toNat)) = (rx monthL (IntKind.i64.wrap (y1.2 - 1))) →
                    (L0 (y1.2, (IntKind.i64.wrap (y1.2 + 1))))) ∧
                  (¬ ((a0.extract ((8 : Int).toNat) ((11 : Int).toNat)) = (rx monthL (IntKind.i64.wrap (y1.2 - 1)))) →
                    (L0 (y1.1, (IntKind.i64.wrap (y1.2 + 1)))))) ∧
                (¬ (y1.2 ≤ 12) →
                  pL4Num a0 12 4 ∧
                  pL4Num a0 5 2 ∧
                  pDaysOf (mL4Num a0 12 4) y1.1 (mL4Num a0 5 2) ∧
                  pL4Num a0 17 2 ∧
                  pL4Num a0 20 2 ∧
                  pL4Num a0 23 2 ∧
                  ((mDaysOf (mL4Num a0 12 4) y1.1 (mL4Num a0 5 2)) < 0 →
                    (Q (0, false))) ∧
                  (¬ ((mDaysOf (mL4Num a0 12 4) y1.1 (mL4Num a0 5 2)) < 0) →
                    ((mL4Num a0 17 2) < 0 →
                      (Q (0, false))) ∧
                    (¬ ((mL4Num a0 17 2) < 0) →
                      ((mL4Num a0 20 2) < 0 →
                        (Q (0, false))) ∧
                      (¬ ((mL4Num a0 20 2) < 0) →
                        ((mL4Num a0 23 2) < 0 →
                          (Q (0, false))) ∧
                        (¬ ((mL4Num a0 23 2) < 0) →
                          pShowDate (IntKind.i64.wrap ((IntKind.i64.wrap ((IntKind.i64.wrap ((IntKind.i64.wrap ((mDaysOf (mL4Num a0 12 4) y1.1 (mL4Num a0 5 2)) * 86400)) + (IntKind.i64.wrap ((mL4Num a0 17 2) * 3600)))) + (IntKind.i64.wrap ((mL4Num a0 20 2) * 60)))) + (mL4Num a0 23 2))) ∧
                          ((mShowDate (IntKind.i64.wrap ((IntKind.i64.wrap ((IntKind.i64.wrap ((IntKind.i64.wrap ((mDaysOf (mL4Num a0 12 4) y1.1 (mL4Num a0 5 2)) * 86400)) + (IntKind.i64.wrap ((mL4Num a0 17 2) * 3600)))) + (IntKind.i64.wrap ((mL4Num a0 20 2) * 60)))) + (mL4Num a0 23 2)))) ≠ a0 →
                            (Q (0, false))) ∧
                          (¬ ((mShowDate (IntKind.i64.wrap ((IntKind.i64.wrap ((IntKind.i64.wrap ((IntKind.i64.wrap ((mDaysOf (mL4Num a0 12 4) y1.1 (mL4Num a0 5 2)) * 86400)) + (IntKind.i64.wrap ((mL4Num a0 17 2) * 3600)))) + (IntKind.i64.wrap ((mL4Num a0 20 2) * 60)))) + (mL4Num a0 23 2)))) ≠ a0) →
                            (Q ((IntKind.i64.wrap ((IntKind.i64.wrap ((IntKind.i64.wrap ((IntKind.i64.wrap ((mDaysOf (mL4Num a0 12 4) y1.1 (mL4Num a0 5 2)) * 86400)) + (IntKind.i64.wrap ((mL4Num a0 17 2) * 3600)))) + (IntKind.i64.wrap ((mL4Num a0 20 2) * 60)))) + (mL4Num a0 23 2))), true))))))))
              ) →
              (L0 y1)))
        ) →
        (L0 (0, 1)))))

def s_spec_l4Num (a0 : S) (a1 : Int) (a2 : Int) (Q : (Int → Prop)) : Prop :=
  (∀ L0 : ((Int × Int) → Prop),
    ((
        (∀ y1 : (Int × Int),
          ((
              (y1.2 < (IntKind.i64.wrap (a1 + a2)) →
                0 ≤ y1.2 ∧
                y1.2 < (a0.size : Int) ∧
                ((bt a0 y1.2) < 48 →
                  (Q (-1))) ∧
                (¬ ((bt a0 y1.2) < 48) →
                  0 ≤ y1.2 ∧
                  y1.2 < (a0.size : Int) ∧
                  (57 < (bt a0 y1.2) →
                    (Q (-1))) ∧
                  (¬ (57 < (bt a0 y1.2)) →
                    0 ≤ y1.2 ∧
                    y1.2 < (a0.size : Int) ∧
                    (L0 ((IntKind.i64.wrap ((IntKind.i64.wrap (y1.1 * 10)) + (IntKind.i64.wrap (IntKind.u8.wrap ((bt a0 y1.2) - 48))))), (IntKind.i64.wrap (y1.2 + 1))))))) ∧
              (¬ (y1.2 < (IntKind.i64.wrap (a1 + a2))) →
                (Q y1.1))
            ) →
            (L0 y1)))
      ) →
      (L0 (0, a1))))

end Go.Ev
end

section
/- What the functions of dates come to: printed by a program of this session's own (EwShow) out of the small machine. -/
set_option linter.unusedVariables false
namespace Go.Ev

def s_impl_DaysOf (a0 : Int) (a1 : Int) (a2 : Int) (Q : (Int → Prop)) : Prop :=
  pIn a0 1970 2037 ∧
  (¬ ((mIn a0 1970 2037) = true) →
    (Q (-1))) ∧
  (¬ (¬ ((mIn a0 1970 2037) = true)) →
    pIn a1 1 12 ∧
    (¬ ((mIn a1 1 12) = true) →
      (Q (-1))) ∧
    (¬ (¬ ((mIn a1 1 12) = true)) →
      pMonthDays a0 a1 ∧
      pIn a2 1 (mMonthDays a0 a1) ∧
      (¬ ((mIn a2 1 (mMonthDays a0 a1)) = true) →
        (Q (-1))) ∧
      (¬ (¬ ((mIn a2 1 (mMonthDays a0 a1)) = true)) →
        (∀ L0 : ((Int × Int) → Prop),
          ((
              (∀ y1 : (Int × Int),
                ((
                    (y1.2 < a0 →
                      pYearDays y1.2 ∧
                      (L0 ((IntKind.i64.wrap (y1.1 + (mYearDays y1.2))), (IntKind.i64.wrap (y1.2 + 1))))) ∧
                    (¬ (y1.2 < a0) →
                      (∀ L2 : ((Int × Int) → Prop),
                        ((
                            (∀ y3 : (Int × Int),
                              ((
                                  (y3.2 < a1 →
                                    pMonthDays a0 y3.2 ∧
                                    (L2 ((IntKind.i64.wrap (y3.1 + (mMonthDays a0 y3.2))), (IntKind.i64.wrap (y3.2 + 1))))) ∧
                                  (¬ (y3.2 < a1) →
                                    (Q y3.1))
                                ) →
                                (L2 y3)))
                          ) →
                          (L2 (y1.1, 1)))))
                  ) →
                  (L0 y1)))
            ) →
            (L0 ((IntKind.i64.wrap (a2 - 1)), 1970)))))))

def s_impl_IsLeap (a0 : Int) (Q : (Bool → Prop)) : Prop :=
  (4 : Int) ≠ 0 ∧
  ((a0.tmod 4) = 0 →
    (100 : Int) ≠ 0 ∧
    ((a0.tmod 100) ≠ 0 →
      (Q true)) ∧
    (¬ ((a0.tmod 100) ≠ 0) →
      (400 : Int) ≠ 0 ∧
      (Q (decide ((a0.tmod 400) = 0))))) ∧
  (¬ ((a0.tmod 4) = 0) →
    (400 : Int) ≠ 0 ∧
    (Q (decide ((a0.tmod 400) = 0))))

def s_impl_ShowDate (a0 : Int) (Q : (S → Prop)) : Prop :=
  pIn a0 0 2000000000 ∧
  (¬ ((mIn a0 0 2000000000) = true) →
    (Q (lit []))) ∧
  (¬ (¬ ((mIn a0 0 2000000000) = true)) →
    (86400 : Int) ≠ 0 ∧
    (86400 : Int) ≠ 0 ∧
    (7 : Int) ≠ 0 ∧
    0 ≤ ((IntKind.i64.wrap (a0.tdiv 86400)).tmod 7) ∧
    ((IntKind.i64.wrap (a0.tdiv 86400)).tmod 7) < (weekL.length : Int) ∧
    (∀ L0 : ((Int × Int) → Prop),
      ((
          (∀ y1 : (Int × Int),
            ((
                pYearDays y1.2 ∧
                ((mYearDays y1.2) ≤ y1.1 →
                  pYearDays y1.2 ∧
                  (L0 ((IntKind.i64.wrap (y1.1 - (mYearDays y1.2))), (IntKind.i64.wrap (y1.2 + 1))))) ∧
                (¬ ((mYearDays y1.2) ≤ y1.1) →
                  (∀ L2 : ((Int × Int) → Prop),
                    ((
                        (∀ y3 : (Int × Int),
                          ((
                              pMonthDays y1.2 y3.2 ∧
                              ((mMonthDays y1.2 y3.2) ≤ y3.1 →
                                pMonthDays y1.2 y3.2 ∧
                                (L2 ((IntKind.i64.wrap (y3.1 - (mMonthDays y1.2 y3.2))), (IntKind.i64.wrap (y3.2 + 1))))) ∧
                              (¬ ((mMonthDays y1.2 y3.2) ≤ y3.1) →
                                (rx weekL ((IntKind.i64.wrap (a0.tdiv 86400)).tmod 7)).size + (lit [44, 32]).size ≤ 9223372036854775807 ∧
                                pTwo (IntKind.i64.wrap (y3.1 + 1)) ∧
                                ((rx weekL ((IntKind.i64.wrap (a0.tdiv 86400)).tmod 7)) ++ (lit [44, 32])).size + (mTwo (IntKind.i64.wrap (y3.1 + 1))).size ≤ 9223372036854775807 ∧
                                (((rx weekL ((IntKind.i64.wrap (a0.tdiv 86400)).tmod 7)) ++ (lit [44, 32])) ++ (mTwo (IntKind.i64.wrap (y3.1 + 1)))).size + (lit [32]).size ≤ 9223372036854775807 ∧
                                pMonths () ∧
                                0 ≤ (IntKind.i64.wrap (y3.2 - 1)) ∧
                                (IntKind.i64.wrap (y3.2 - 1)) < (monthL.length : Int) ∧
                                ((((rx weekL ((IntKind.i64.wrap (a0.tdiv 86400)).tmod 7)) ++ (lit [44, 32])) ++ (mTwo (IntKind.i64.wrap (y3.1 + 1)))) ++ (lit [32])).size + (rx monthL (IntKind.i64.wrap (y3.2 - 1))).size ≤ 9223372036854775807 ∧
                                (((((rx weekL ((IntKind.i64.wrap (a0.tdiv 86400)).tmod 7)) ++ (lit [44, 32])) ++ (mTwo (IntKind.i64.wrap (y3.1 + 1)))) ++ (lit [32])) ++ (rx monthL (IntKind.i64.wrap (y3.2 - 1)))).size + (lit [32]).size ≤ 9223372036854775807 ∧
                                pItoa y1.2 ∧
                                ((((((rx weekL ((IntKind.i64.wrap (a0.tdiv 86400)).tmod 7)) ++ (lit [44, 32])) ++ (mTwo (IntKind.i64.wrap (y3.1 + 1)))) ++ (lit [32])) ++ (rx monthL (IntKind.i64.wrap (y3.2 - 1)))) ++ (lit [32])).size + (mItoa y1.2).size ≤ 9223372036854775807 ∧
                                (((((((rx weekL ((IntKind.i64.wrap (a0.tdiv 86400)).tmod 7)) ++ (lit [44, 32])) ++ (mTwo (IntKind.i64.wrap (y3.1 + 1)))) ++ (lit [32])) ++ (rx monthL (IntKind.i64.wrap (y3.2 - 1)))) ++ (lit [32])) ++ (mItoa y1.2)).size + (lit [32]).size ≤ 9223372036854775807 ∧
                                (3600 : Int) ≠ 0 ∧
                                pTwo (IntKind.i64.wrap ((a0.tmod 86400).tdiv 3600)) ∧
                                ((((((((rx weekL ((IntKind.i64.wrap (a0.tdiv 86400)).tmod 7)) ++ (lit [44, 32])) ++ (mTwo (IntKind.i64.wrap (y3.1 + 1)))) ++ (lit [32])) ++ (rx monthL (IntKind.i64.wrap (y3.2 - 1)))) ++ (lit [32])) ++ (mItoa y1.2)) ++ (lit [32])).size + (mTwo (IntKind.i64.wrap ((a0.tmod 86400).tdiv 3600))).size ≤ 9223372036854775807 ∧
                                (((((((((rx weekL ((IntKind.i64.wrap (a0.tdiv 86400)).tmod 7)) ++ (lit [44, 32])) ++ (mTwo (IntKind.i64.wrap (y3.1 + 1)))) ++ (lit [32])) ++ (rx monthL (IntKind.i64.wrap (y3.2 - 1)))) ++ (lit [32])) ++ (mItoa y1.2)) ++ (lit [32])) ++ (mTwo (IntKind.i64.wrap ((a0.tmod 86400).tdiv 3600)))).size + (lit [58]).size ≤ 9223372036854775807 ∧
                                (60 : Int) ≠ 0 ∧
                                (60 : Int) ≠ 0 ∧
                                pTwo ((IntKind.i64.wrap ((a0.tmod 86400).tdiv 60)).tmod 60) ∧
                                ((((((((((rx weekL ((IntKind.i64.wrap (a0.tdiv 86400)).tmod 7)) ++ (lit [44, 32])) ++ (mTwo (IntKind.i64.wrap (y3.1 + 1)))) ++ (lit [32])) ++ (rx monthL (IntKind.i64.wrap (y3.2 - 1)))) ++ (lit [32])) ++ (mItoa y1.2)) ++ (lit [32])) ++ (mTwo (IntKind.i64.wrap ((a0.tmod 86400).tdiv 3600)))) ++ (lit [58])).size + (mTwo ((IntKind.i64.wrap ((a0.tmod 86400).tdiv 60)).tmod 60)).size ≤ 9223372036854775807 ∧
                                (((((((((((rx weekL ((IntKind.i64.wrap (a0.tdiv 86400)).tmod 7)) ++ (lit [44, 32])) ++ (mTwo (IntKind.i64.wrap (y3.1 + 1)))) ++ (lit [32])) ++ (rx monthL (IntKind.i64.wrap (y3.2 - 1)))) ++ (lit [32])) ++ (mItoa y1.2)) ++ (lit [32])) ++ (mTwo (IntKind.i64.wrap ((a0.tmod 86400).tdiv 3600)))) ++ (lit [58])) ++ (mTwo ((IntKind.i64.wrap ((a0.tmod 86400).tdiv 60)).tmod 60))).size + (lit [58]).size ≤ 9223372036854775807 ∧
                                (60 : Int) ≠ 0 ∧
                                pTwo ((a0.tmod 86400).tmod 60) ∧
                                ((((((((((((rx weekL ((IntKind.i64.wrap (a0.tdiv 86400)).tmod 7)) ++ (lit [44, 32])) ++ (mTwo (IntKind.i64.wrap (y3.1 + 1)))) ++ (lit [32])) ++ (rx monthL (IntKind.i64.wrap (y3.2 - 1)))) ++ (lit [32])) ++ (mItoa y1.2)) ++ (lit [32])) ++ (mTwo (IntKind.i64.wrap ((a0.tmod 86400).tdiv 3600)))) ++ (lit [58])) ++ (mTwo ((IntKind.i64.wrap ((a0.tmod 86400).tdiv 60)).tmod 60))) ++ (lit [58])).size + (mTwo ((a0.tmod 86400).tmod 60)).size ≤ 9223372036854775807 ∧
                                (((((((((((((rx weekL ((IntKind.i64.wrap (a0.tdiv 86400)).tmod 7)) ++ (lit [44, 32])) ++ (mTwo (IntKind.i64.wrap (y3.1 + 1)))) ++ (lit [32])) ++ (rx monthL (IntKind.i64.wrap (y3.2 - 1)))) ++ (lit [32])) ++ (mItoa y1.2)) ++ (lit [32])) ++ (mTwo (IntKind.i64.wrap ((a0.tmod 86400).tdiv 3600)))) ++ (lit [58])) ++ (mTwo ((IntKind.i64.wrap ((a0.tmod 86400).tdiv 60)).tmod 60))) ++ (lit [58])) ++ (mTwo ((a0.tmod 86400).tmod 60))).size + (lit [32, 71, 77, 84]).size ≤ 9223372036854775807 ∧
                                (Q ((((((((((((((rx weekL ((IntKind.i64.wrap (a0.tdiv 86400)).tmod 7)) ++ (lit [44, 32])) ++ (mTwo (IntKind.i64.wrap (y3.1 + 1)))) ++ (lit [32])) ++ (rx monthL (IntKind.i64.wrap (y3.2 - 1)))) ++ (lit [32])) ++ (mItoa y1.2)) ++ (lit [32])) ++ (mTwo (IntKind.i64.wrap ((a0.tmod 86400).tdiv 3600)))) ++ (lit [58])) ++ (mTwo ((IntKind.i64.wrap ((a0.tmod 86400).tdiv 60)).tmod 60))) ++ (lit [58])) ++ (mTwo ((a0.tmod 86400).tmod 60))) ++ (lit [32, 71, 77, 84]))))
                            ) →
                            (L2 y3)))
                      ) →
                      (L2 (y1.1, 1)))))
              ) →
              (L0 y1)))
        ) →
        (L0 ((IntKind.i64.wrap (a0.tdiv 86400)), 1970)))))

def s_impl_monthDays (a0 : Int) (a1 : Int) (Q : (Int → Prop)) : Prop :=
  (a1 = 2 →
    pIsLeap a0 ∧
    ((mIsLeap a0) = true →
      (Q 29)) ∧
    (¬ ((mIsLeap a0) = true) →
      0 ≤ (IntKind.i64.wrap (a1 - 1)) ∧
      (IntKind.i64.wrap (a1 - 1)) < ([31, 28, 31, 30, 31, 30, 31, 31, 30, 31, 30, 31].length : Int) ∧
      (Q (rx [31, 28, 31, 30, 31, 30, 31, 31, 30, 31, 30, 31] (IntKind.i64.wrap (a1 - 1)))))) ∧
  (¬ (a1 = 2) →
    0 ≤ (IntKind.i64.wrap (a1 - 1)) ∧
    (IntKind.i64.wrap (a1 - 1)) < ([31, 28, 31, 30, 31, 30, 31, 31, 30, 31, 30, 31].length : Int) ∧
    (Q (rx [31, 28, 31, 30, 31, 30, 31, 31, 30, 31, 30, 31] (IntKind.i64.wrap (a1 - 1)))))

def s_impl_months (Q : ((List S) → Prop)) : Prop :=
  (Q monthL)

def s_impl_two (a0 : Int) (Q : (S → Prop)) : Prop :=
  pItoa (IntKind.i64.wrap (100 + a0)) ∧
  (0 : Int) ≤ 1 ∧
  1 ≤ ((mItoa (IntKind.i64.wrap (100 + a0))).size : Int) ∧
  (Q ((mItoa (IntKind.i64.wrap (100 + a0))).extract ((1 : Int).toNat) (mItoa (IntKind.i64.wrap (100 + a0))).size))

def s_impl_yearDays (a0 : Int) (Q : (Int → Prop)) : Prop :=
  pIsLeap a0 ∧
  ((mIsLeap a0) = true →
    (Q 366)) ∧
  (¬ ((mIsLeap a0) = true) →
    (Q 365))

def s_spec_DaysOf (a0 : Int) (a1 : Int) (a2 : Int) (Q : (Int → Prop)) : Prop :=
  pIn a0 1970 2037 ∧
  (¬ ((mIn a0 1970 2037) = true) →
    (Q (-1))) ∧
  (¬ (¬ ((mIn a0 1970 2037) = true)) →
    pIn a1 1 12 ∧
    (¬ ((mIn a1 1 12) = true) →
      (Q (-1))) ∧
    (¬ (¬ ((mIn a1 1 12) = true)) →
      pL4Months a0 ∧
      0 ≤ (IntKind.i64.wrap (a1 - 1)) ∧
      (IntKind.i64.wrap (a1 - 1)) < ((mL4Months a0).length : Int) ∧
      pIn a2 1 (rx (mL4Months a0) (IntKind.i64.wrap (a1 - 1))) ∧
      (¬ ((mIn a2 1 (rx (mL4Months a0) (IntKind.i64.wrap (a1 - 1)))) = true) →
        (Q (-1))) ∧
      (¬ (¬ ((mIn a2 1 (rx (mL4Months a0) (IntKind.i64.wrap (a1 - 1)))) = true)) →
        (∀ L0 : ((Int × Int) → Prop),
          ((
              (∀ y1 : (Int × Int),
                ((
                    (y1.2 < a0 →
                      pIsLeap y1.2 ∧
                      ((mIsLeap y1.2) = true →
                        (L0 ((IntKind.i64.wrap ((IntKind.i64.wrap (y1.1 + 365)) + 1)), (IntKind.i64.wrap (y1.2 + 1))))) ∧
                      (¬ ((mIsLeap y1.2) = true) →
                        (L0 ((IntKind.i64.wrap (y1.1 + 365)), (IntKind.i64.wrap (y1.2 + 1)))))) ∧
                    (¬ (y1.2 < a0) →
                      (∀ L2 : ((Int × Int) → Prop),
                        ((
                            (∀ y3 : (Int × Int),
                              ((
                                  (y3.2 < a1 →
                                    pL4Months a0 ∧
                                    0 ≤ (IntKind.i64.wrap (y3.2 - 1)) ∧
                                    (IntKind.i64.wrap (y3.2 - 1)) < ((mL4Months a0).length : Int) ∧
                                    (L2 ((IntKind.i64.wrap (y3.1 + (rx (mL4Months a0) (IntKind.i64.wrap (y3.2 - 1))))), (IntKind.i64.wrap (y3.2 + 1))))) ∧
                                  (¬ (y3.2 < a1) →
                                    (Q y3.1))
                                ) →
                                (L2 y3)))
                          ) →
                          (L2 (y1.1, 1)))))
                  ) →
                  (L0 y1)))
            ) →
            (L0 ((IntKind.i64.wrap (a2 - 1)), 1970)))))))

def s_spec_IsLeap (a0 : Int) (Q : (Bool → Prop)) : Prop :=
  (4 : Int) ≠ 0 ∧
  ((a0.tmod 4) = 0 →
    (100 : Int) ≠ 0 ∧
    ((a0.tmod 100) ≠ 0 →
      (Q true)) ∧
    (¬ ((a0.tmod 100) ≠ 0) →
      (400 : Int) ≠ 0 ∧
      (Q (decide ((a0.tmod 400) = 0))))) ∧
  (¬ ((a0.tmod 4) = 0) →
    (Q false))

def s_spec_ShowDate (a0 : Int) (Q : (S → Prop)) : Prop :=
  pIn a0 0 2000000000 ∧
  (¬ ((mIn a0 0 2000000000) = true) →
    (Q (lit []))) ∧
  (¬ (¬ ((mIn a0 0 2000000000) = true)) →
    (86400 : Int) ≠ 0 ∧
    (∀ L0 : (Int → Prop),
      ((
          (∀ y1 : Int,
            ((
                (y1 < 2037 →
                  pDaysOf (IntKind.i64.wrap (y1 + 1)) 1 1 ∧
                  ((mDaysOf (IntKind.i64.wrap (y1 + 1)) 1 1) ≤ (IntKind.i64.wrap (a0.tdiv 86400)) →
                    (L0 (IntKind.i64.wrap (y1 + 1)))) ∧
                  (¬ ((mDaysOf (IntKind.i64.wrap (y1 + 1)) 1 1) ≤ (IntKind.i64.wrap (a0.tdiv 86400))) →
                    (∀ L2 : (Int → Prop),
                      ((
                          (∀ y3 : Int,
                            ((
                                (y3 < 12 →
                                  pDaysOf y1 (IntKind.i64.wrap (y3 + 1)) 1 ∧
                                  ((mDaysOf y1 (IntKind.i64.wrap (y3 + 1)) 1) ≤ (IntKind.i64.wrap (a0.tdiv 86400)) →
                                    (L2 (IntKind.i64.wrap (y3 + 1)))) ∧
                                  (¬ ((mDaysOf y1 (IntKind.i64.wrap (y3 + 1)) 1) ≤ (IntKind.i64.wrap (a0.tdiv 86400))) →
                                    pDaysOf y1 y3 1 ∧
                                    (7 : Int) ≠ 0 ∧
                                    0 ≤ ((IntKind.i64.wrap (a0.tdiv 86400)).tmod 7) ∧
                                    ((IntKind.i64.wrap (a0.tdiv 86400)).tmod 7) < (weekL.length : Int) ∧
                                    0 ≤ (IntKind.i64.wrap (y3 - 1)) ∧
                                    (IntKind.i64.wrap (y3 - 1)) < (monthL.length : Int) ∧
                                    (rx weekL ((IntKind.i64.wrap (a0.tdiv 86400)).tmod 7)).size + (lit [44, 32]).size ≤ 9223372036854775807 ∧
                                    pL4Two (IntKind.i64.wrap ((IntKind.i64.wrap ((IntKind.i64.wrap (a0.tdiv 86400)) - (mDaysOf y1 y3 1))) + 1)) ∧
                                    ((rx weekL ((IntKind.i64.wrap (a0.tdiv 86400)).tmod 7)) ++ (lit [44, 32])).size + (mL4Two (IntKind.i64.wrap ((IntKind.i64.wrap ((IntKind.i64.wrap (a0.tdiv 86400)) - (mDaysOf y1 y3 1))) + 1))).size ≤ 9223372036854775807 ∧
                                    (((rx weekL ((IntKind.i64.wrap (a0.tdiv 86400)).tmod 7)) ++ (lit [44, 32])) ++ (mL4Two (IntKind.i64.wrap ((IntKind.i64.wrap ((IntKind.i64.wrap (a0.tdiv 86400)) - (mDaysOf y1 y3 1))) + 1)))).size + (lit [32]).size ≤ 9223372036854775807 ∧
                                    ((((rx weekL ((IntKind.i64.wrap (a0.tdiv 86400)).tmod 7)) ++ (lit [44, 32])) ++ (mL4Two (IntKind.i64.wrap ((IntKind.i64.wrap ((IntKind.i64.wrap (a0.tdiv 86400)) - (mDaysOf y1 y3 1))) + 1)))) ++ (lit [32])).size + (rx monthL (IntKind.i64.wrap (y3 - 1))).size ≤ 9223372036854775807 ∧
                                    (((((rx weekL ((IntKind.i64.wrap (a0.tdiv 86400)).tmod 7)) ++ (lit [44, 32])) ++ (mL4Two (IntKind.i64.wrap ((IntKind.i64.wrap ((IntKind.i64.wrap (a0.tdiv 86400)) - (mDaysOf y1 y3 1))) + 1)))) ++ (lit [32])) ++ (rx monthL (IntKind.i64.wrap (y3 - 1)))).size + (lit [32]).size ≤ 9223372036854775807 ∧
                                    pDec y1 ∧
                                    ((((((rx weekL ((IntKind.i64.wrap (a0.tdiv 86400)).tmod 7)) ++ (lit [44, 32])) ++ (mL4Two (IntKind.i64.wrap ((IntKind.i64.wrap ((IntKind.i64.wrap (a0.tdiv 86400)) - (mDaysOf y1 y3 1))) + 1)))) ++ (lit [32])) ++ (rx monthL (IntKind.i64.wrap (y3 - 1)))) ++ (lit [32])).size + (mDec y1).size ≤ 9223372036854775807 ∧
                                    (((((((rx weekL ((IntKind.i64.wrap (a0.tdiv 86400)).tmod 7)) ++ (lit [44, 32])) ++ (mL4Two (IntKind.i64.wrap ((IntKind.i64.wrap ((IntKind.i64.wrap (a0.tdiv 86400)) - (mDaysOf y1 y3 1))) + 1)))) ++ (lit [32])) ++ (rx monthL (IntKind.i64.wrap (y3 - 1)))) ++ (lit [32])) ++ (mDec y1)).size + (lit [32]).size ≤ 9223372036854775807 ∧
                                    (3600 : Int) ≠ 0 ∧
                                    (24 : Int) ≠ 0 ∧
                                    pL4Two ((IntKind.i64.wrap (a0.tdiv 3600)).tmod 24) ∧
                                    ((((((((rx weekL ((IntKind.i64.wrap (a0.tdiv 86400)).tmod 7)) ++ (lit [44, 32])) ++ (mL4Two (IntKind.i64.wrap ((IntKind.i64.wrap ((IntKind.i64.wrap (a0.tdiv 86400)) - (mDaysOf y1 y3 1))) + 1)))) ++ (lit [32])) ++ (rx monthL (IntKind.i64.wrap (y3 - 1)))) ++ (lit [32])) ++ (mDec y1)) ++ (lit [32])).size + (mL4Two ((IntKind.i64.wrap (a0.tdiv 3600)).tmod 24)).size ≤ 9223372036854775807 ∧
                                    (((((((((rx weekL ((IntKind.i64.wrap (a0.tdiv 86400)).tmod 7)) ++ (lit [44, 32])) ++ (mL4Two (IntKind.i64.wrap ((IntKind.i64.wrap ((IntKind.i64.wrap (a0.tdiv 86400)) - (mDaysOf y1 y3 1))) + 1)))) ++ (lit [32])) ++ (rx monthL (IntKind.i64.wrap (y3 - 1)))) ++ (lit [32])) ++ (mDec y1)) ++ (lit [32])) ++ (mL4Two ((IntKind.i64.wrap (a0.tdiv 3600)).tmod 24))).size + (lit [58]).size ≤ 9223372036854775807 ∧
                                    (60 : Int) ≠ 0 ∧
                                    (60 : Int) ≠ 0 ∧
                                    pL4Two ((IntKind.i64.wrap (a0.tdiv 60)).tmod 60) ∧
                                    ((((((((((rx weekL ((IntKind.i64.wrap (a0.tdiv 86400)).tmod 7)) ++ (lit [44, 32])) ++ (mL4Two (IntKind.i64.wrap ((IntKind.i64.wrap ((IntKind.i64.wrap (a0.tdiv 86400)) - (mDaysOf y1 y3 1))) + 1)))) ++ (lit [32])) ++ (rx monthL (IntKind.i64.wrap (y3 - 1)))) ++ (lit [32])) ++ (mDec y1)) ++ (lit [32])) ++ (mL4Two ((IntKind.i64.wrap (a0.tdiv 3600)).tmod 24))) ++ (lit [58])).size + (mL4Two ((IntKind.i64.wrap (a0.tdiv 60)).tmod 60)).size ≤ 9223372036854775807 ∧
                                    (((((((((((rx weekL ((IntKind.i64.wrap (a0.tdiv 86400)).tmod 7)) ++ (lit [44, 32])) ++ (mL4Two (IntKind.i64.wrap ((IntKind.i64.wrap ((IntKind.i64.wrap (a0.tdiv 86400)) - (mDaysOf y1 y3 1))) + 1)))) ++ (lit [32])) ++ (rx monthL (IntKind.i64.wrap (y3 - 1)))) ++ (lit [32])) ++ (mDec y1)) ++ (lit [32])) ++ (mL4Two ((IntKind.i64.wrap (a0.tdiv 3600)).tmod 24))) ++ (lit [58])) ++ (mL4Two ((IntKind.i64.wrap (a0.tdiv 60)).tmod 60))).size + (lit [58]).size ≤ 9223372036854775807 ∧
                                    (60 : Int) ≠ 0 ∧
                                    pL4Two (a0.tmod 60) ∧
                                    ((((((((((((rx weekL ((IntKind.i64.wrap (a0.tdiv 86400)).tmod 7)) ++ (lit [44, 32])) ++ (mL4Two (IntKind.i64.wrap ((IntKind.i64.wrap ((IntKind.i64.wrap (a0.tdiv 86400)) - (mDaysOf y1 y3 1))) + 1)))) ++ (lit [32])) ++ (rx monthL (IntKind.i64.wrap (y3 - 1)))) ++ (lit [32])) ++ (mDec y1)) ++ (lit [32])) ++ (mL4Two ((IntKind.i64.wrap (a0.tdiv 3600)).tmod 24))) ++ (lit [58])) ++ (mL4Two ((IntKind.i64.wrap (a0.tdiv 60)).tmod 60))) ++ (lit [58])).size + (mL4Two (a0.tmod 60)).size ≤ 9223372036854775807 ∧
                                    (((((((((((((rx weekL ((IntKind.i64.wrap (a0.tdiv 86400)).tmod 7)) ++ (lit [44, 32])) ++ (mL4Two (IntKind.i64.wrap ((IntKind.i64.wrap ((IntKind.i64.wrap (a0.tdiv 86400)) - (mDaysOf y1 y3 1))) + 1)))) ++ (lit [32])) ++ (rx monthL (IntKind.i64.wrap (y3 - 1)))) ++ (lit [32])) ++ (mDec y1)) ++ (lit [32])) ++ (mL4Two ((IntKind.i64.wrap (a0.tdiv 3600)).tmod 24))) ++ (lit [58])) ++ (mL4Two ((IntKind.i64.wrap (a0.tdiv 60)).tmod 60))) ++ (lit [58])) ++ (mL4Two (a0.tmod 60))).size + (lit [32, 71, 77, 84]).size ≤ 9223372036854775807 ∧
                                    (Q ((((((((((((((rx weekL ((IntKind.i64.wrap (a0.tdiv 86400)).tmod 7)) ++ (lit [44, 32])) ++ (mL4Two (IntKind.i64.wrap ((IntKind.i64.wrap ((IntKind.i64.wrap (a0.tdiv 86400)) - (mDaysOf y1 y3 1))) + 1)))) ++ (lit [32])) ++ (rx monthL (IntKind.i64.wrap (y3 - 1)))) ++ (lit [32])) ++ (mDec y1)) ++ (lit [32])) ++ (mL4Two ((IntKind.i64.wrap (a0.tdiv 3600)).tmod 24))) ++ (lit [58])) ++ (mL4Two ((IntKind.i64.wrap (a0.tdiv 60)).tmod 60))) ++ (lit [58])) ++ (mL4Two (a0.tmod 60))) ++ (lit [32, 71, 77, 84]))))) ∧
                                (¬ (y3 < 12) →
                                  pDaysOf y1 y3 1 ∧
                                  (7 : Int) ≠ 0 ∧
                                  0 ≤ ((IntKind.i64.wrap (a0.tdiv 86400)).tmod 7) ∧
                                  ((IntKind.i64.wrap (a0.tdiv 86400)).tmod 7) < (weekL.length : Int) ∧
                                  0 ≤ (IntKind.i64.wrap (y3 - 1)) ∧
                                  (IntKind.i64.wrap (y3 - 1)) < (monthL.length : Int) ∧
                                  (rx weekL ((IntKind.i64.wrap (a0.tdiv 86400)).tmod 7)).size + (lit [44, 32]).size ≤ 9223372036854775807 ∧
                                  pL4Two (IntKind.i64.wrap ((IntKind.i64.wrap ((IntKind.i64.wrap (a0.tdiv 86400)) - (mDaysOf y1 y3 1))) + 1)) ∧
                                  ((rx weekL ((IntKind.i64.wrap (a0.tdiv 86400)).tmod 7)) ++ (lit [44, 32])).size + (mL4Two (IntKind.i64.wrap ((IntKind.i64.wrap ((IntKind.i64.wrap (a0.tdiv 86400)) - (mDaysOf y1 y3 1))) + 1))).size ≤ 9223372036854775807 ∧
                                  (((rx weekL ((IntKind.i64.wrap (a0.tdiv 86400)).tmod 7)) ++ (lit [44, 32])) ++ (mL4Two (IntKind.i64.wrap ((IntKind.i64.wrap ((IntKind.i64.wrap (a0.tdiv 86400)) - (mDaysOf y1 y3 1))) + 1)))).size + (lit [32]).size ≤ 9223372036854775807 ∧
                                  ((((rx weekL ((IntKind.i64.wrap (a0.tdiv 86400)).tmod 7)) ++ (lit [44, 32])) ++ (mL4Two (IntKind.i64.wrap ((IntKind.i64.wrap ((IntKind.i64.wrap (a0.tdiv 86400)) - (mDaysOf y1 y3 1))) + 1)))) ++ (lit [32])).size + (rx monthL (IntKind.i64.wrap (y3 - 1))).size ≤ 9223372036854775807 ∧
                                  (((((rx weekL ((IntKind.i64.wrap (a0.tdiv 86400)).tmod 7)) ++ (lit [44, 32])) ++ (mL4Two (IntKind.i64.wrap ((IntKind.i64.wrap ((IntKind.i64.wrap (a0.tdiv 86400)) - (mDaysOf y1 y3 1))) + 1)))) ++ (lit [32])) ++ (rx monthL (IntKind.i64.wrap (y3 - 1)))).size + (lit [32]).size ≤ 9223372036854775807 ∧
                                  pDec y1 ∧
                                  ((((((rx weekL ((IntKind.i64.wrap (a0.tdiv 86400)).tmod 7)) ++ (lit [44, 32])) ++ (mL4Two (IntKind.i64.wrap ((IntKind.i64.wrap ((IntKind.i64.wrap (a0.tdiv 86400)) - (mDaysOf y1 y3 1))) + 1)))) ++ (lit [32])) ++ (rx monthL (IntKind.i64.wrap (y3 - 1)))) ++ (lit [32])).size + (mDec y1).size ≤ 9223372036854775807 ∧
                                  (((((((rx weekL ((IntKind.i64.wrap (a0.tdiv 86400)).tmod 7)) ++ (lit [44, 32])) ++ (mL4Two (IntKind.i64.wrap ((IntKind.i64.wrap ((IntKind.i64.wrap (a0.tdiv 86400)) - (mDaysOf y1 y3 1))) + 1)))) ++ (lit [32])) ++ (rx monthL (IntKind.i64.wrap (y3 - 1)))) ++ (lit [32])) ++ (mDec y1)).size + (lit [32]).size ≤ 9223372036854775807 ∧
                                  (3600 : Int) ≠ 0 ∧
                                  (24 : Int) ≠ 0 ∧
                                  pL4Two ((IntKind.i64.wrap (a0.tdiv 3600)).tmod 24) ∧
                                  ((((((((rx weekL ((IntKind.i64.wrap (a0.tdiv 86400)).tmod 7)) ++ (lit [44, 32])) ++ (mL4Two (IntKind.i64.wrap ((IntKind.i64.wrap ((IntKind.i64.wrap (a0.tdiv 86400)) - (mDaysOf y1 y3 1))) + 1)))) ++ (lit [32])) ++ (rx monthL (IntKind.i64.wrap (y3 - 1)))) ++ (lit [32])) ++ (mDec y1)) ++ (lit [32])).size + (mL4Two ((IntKind.i64.wrap (a0.tdiv 3600)).tmod 24)).size ≤ 9223372036854775807 ∧
                                  (((((((((rx weekL ((IntKind.i64.wrap (a0.tdiv 86400)).tmod 7)) ++ (lit [44, 32])) ++ (mL4Two (IntKind.i64.wrap ((IntKind.i64.wrap ((IntKind.i64.wrap (a0.tdiv 86400)) - (mDaysOf y1 y3 1))) + 1)))) ++ (lit [32])) ++ (rx monthL (IntKind.i64.wrap (y3 - 1)))) ++ (lit [32])) ++ (mDec y1)) ++ (lit [32])) ++ (mL4Two ((IntKind.i64.wrap (a0.tdiv 3600)).tmod 24))).size + (lit [58]).size ≤ 9223372036854775807 ∧
                                  (60 : Int) ≠ 0 ∧
                                  (60 : Int) ≠ 0 ∧
                                  pL4Two ((IntKind.i64.wrap (a0.tdiv 60)).tmod 60) ∧
                                  ((((((((((rx weekL ((IntKind.i64.wrap (a0.tdiv 86400)).tmod 7)) ++ (lit [44, 32])) ++ (mL4Two (IntKind.i64.wrap ((IntKind.i64.wrap ((IntKind.i64.wrap (a0.tdiv 86400)) - (mDaysOf y1 y3 1))) + 1)))) ++ (lit [32])) ++ (rx monthL (IntKind.i64.wrap (y3 - 1)))) ++ (lit [32])) ++ (mDec y1)) ++ (lit [32])) ++ (mL4Two ((IntKind.i64.wrap (a0.tdiv 3600)).tmod 24))) ++ (lit [58])).size + (mL4Two ((IntKind.i64.wrap (a0.tdiv 60)).tmod 60)).size ≤ 9223372036854775807 ∧
                                  (((((((((((rx weekL ((IntKind.i64.wrap (a0.tdiv 86400)).tmod 7)) ++ (lit [44, 32])) ++ (mL4Two (IntKind.i64.wrap ((IntKind.i64.wrap ((IntKind.i64.wrap (a0.tdiv 86400)) - (mDaysOf y1 y3 1))) + 1)))) ++ (lit [32])) ++ (rx monthL (IntKind.i64.wrap (y3 - 1)))) ++ (lit [32])) ++ (mDec y1)) ++ (lit [32])) ++ (mL4Two ((IntKind.i64.wrap (a0.tdiv 3600)).tmod 24))) ++ (lit [58])) ++ (mL4Two ((IntKind.i64.wrap (a0.tdiv 60)).tmod 60))).size + (lit [58]).size ≤ 9223372036854775807 ∧
                                  (60 : Int) ≠ 0 ∧
                                  pL4Two (a0.tmod 60) ∧
                                  ((((((((((((rx weekL ((IntKind.i64.wrap (a0.tdiv 86400)).tmod 7)) ++ (lit [44, 32])) ++ (mL4Two (IntKind.i64.wrap ((IntKind.i64.wrap ((IntKind.i64.wrap (a0.tdiv 86400)) - (mDaysOf y1 y3 1))) + 1)))) ++ (lit [32])) ++ (rx monthL (IntKind.i64.wrap (y3 - 1)))) ++ (lit [32])) ++ (mDec y1)) ++ (lit [32])) ++ (mL4Two ((IntKind.i64.wrap (a0.tdiv 3600)).tmod 24))) ++ (lit [58])) ++ (mL4Two ((IntKind.i64.wrap (a0.tdiv 60)).tmod 60))) ++ (lit [58])).size + (mL4Two (a0.tmod 60)).size ≤ 9223372036854775807 ∧
                                  (((((((((((((rx weekL ((IntKind.i64.wrap (a0.tdiv 86400)).tmod 7)) ++ (lit [44, 32])) ++ (mL4Two (IntKind.i64.wrap ((IntKind.i64.wrap ((IntKind.i64.wrap (a0.tdiv 86400)) - (mDaysOf y1 y3 1))) + 1)))) ++ (lit [32])) ++ (rx monthL (IntKind.i64.wrap (y3 - 1)))) ++ (lit [32])) ++ (mDec y1)) ++ (lit [32])) ++ (mL4Two ((IntKind.i64.wrap (a0.tdiv 3600)).tmod 24))) ++ (lit [58])) ++ (mL4Two ((IntKind.i64.wrap (a0.tdiv 60)).tmod 60))) ++ (lit [58])) ++ (mL4Two (a0.tmod 60))).size + (lit [32, 71, 77, 84]).size ≤ 9223372036854775807 ∧
                                  (Q ((((((((((((((rx weekL ((IntKind.i64.wrap (a0.tdiv 86400)).tmod 7)) ++ (lit [44, 32])) ++ (mL4Two (IntKind.i64.wrap ((IntKind.i64.wrap ((IntKind.i64.wrap (a0.tdiv 86400)) - (mDaysOf y1 y3 1))) + 1)))) ++ (lit [32])) ++ (rx monthL (IntKind.i64.wrap (y3 - 1)))) ++ (lit [32])) ++ (mDec y1)) ++ (lit [32])) ++ (mL4Two ((IntKind.i64.wrap (a0.tdiv 3600)).tmod 24))) ++ (lit [58])) ++ (mL4Two ((IntKind.i64.wrap (a0.tdiv 60)).tmod 60))) ++ (lit [58])) ++ (mL4Two (a0.tmod 60))) ++ (lit [32, 71, 77, 84]))))
                              ) →
                              (L2 y3)))
                        ) →
                        (L2 1))))) ∧
                (¬ (y1 < 2037) →
                  (∀ L4 : (Int → Prop),
                    ((
                        (∀ y5 : Int,
                          ((
                              (y5 < 12 →
                                pDaysOf y1 (IntKind.i64.wrap (y5 + 1)) 1 ∧
                                ((mDaysOf y1 (IntKind.i64.wrap (y5 + 1)) 1) ≤ (IntKind.i64.wrap (a0.tdiv 86400)) →
                                  (L4 (IntKind.i64.wrap (y5 + 1)))) ∧
                                (¬ ((mDaysOf y1 (IntKind.i64.wrap (y5 + 1)) 1) ≤ (IntKind.i64.wrap (a0.tdiv 86400))) →
                                  pDaysOf y1 y5 1 ∧
                                  (7 : Int) ≠ 0 ∧
                                  0 ≤ ((IntKind.i64.wrap (a0.tdiv 86400)).tmod 7) ∧
                                  ((IntKind.i64.wrap (a0.tdiv 86400)).tmod 7) < (weekL.length : Int) ∧
                                  0 ≤ (IntKind.i64.wrap (y5 - 1)) ∧
                                  (IntKind.i64.wrap (y5 - 1)) < (monthL.length : Int) ∧
                                  (rx weekL ((IntKind.i64.wrap (a0.tdiv 86400)).tmod 7)).size + (lit [44, 32]).size ≤ 9223372036854775807 ∧
                                  pL4Two (IntKind.i64.wrap ((IntKind.i64.wrap ((IntKind.i64.wrap (a0.tdiv 86400)) - (mDaysOf y1 y5 1))) + 1)) ∧
                                  ((rx weekL ((IntKind.i64.wrap (a0.tdiv 86400)).tmod 7)) ++ (lit [44, 32])).size + (mL4Two (IntKind.i64.wrap ((IntKind.i64.wrap ((IntKind.i64.wrap (a0.tdiv 86400)) - (mDaysOf y1 y5 1))) + 1))).size ≤ 9223372036854775807 ∧
                                  (((rx weekL ((IntKind.i64.wrap (a0.tdiv 86400)).tmod 7)) ++ (lit [44, 32])) ++ (mL4Two (IntKind.i64.wrap ((IntKind.i64.wrap ((IntKind.i64.wrap (a0.tdiv 86400)) - (mDaysOf y1 y5 1))) + 1)))).size + (lit [32]).size ≤ 9223372036854775807 ∧
                                  ((((rx weekL ((IntKind.i64.wrap (a0.tdiv 86400)).tmod 7)) ++ (lit [44, 32])) ++ (mL4Two (IntKind.i64.wrap ((IntKind.i64.wrap ((IntKind.i64.wrap (a0.tdiv 86400)) - (mDaysOf y1 y5 1))) + 1)))) ++ (lit [32])).size + (rx monthL (IntKind.i64.wrap (y5 - 1))).size ≤ 9223372036854775807 ∧
                                  (((((rx weekL ((IntKind.i64.wrap (a0.tdiv 86400)).tmod 7)) ++ (lit [44, 32])) ++ (mL4Two (IntKind.i64.wrap ((IntKind.i64.wrap ((IntKind.i64.wrap (a0.tdiv 86400)) - (mDaysOf y1 y5 1))) + 1)))) ++ (lit [32])) ++ (rx monthL (IntKind.i64.wrap (y5 - 1)))).size + (lit [32]).size ≤ 9223372036854775807 ∧
                                  pDec y1 ∧
                                  ((((((rx weekL ((IntKind.i64.wrap (a0.tdiv 86400)).tmod 7)) ++ (lit [44, 32])) ++ (mL4Two (IntKind.i64.wrap ((IntKind.i64.wrap ((IntKind.i64.wrap (a0.tdiv 86400)) - (mDaysOf y1 y5 1))) + 1)))) ++ (lit [32])) ++ (rx monthL (IntKind.i64.wrap (y5 - 1)))) ++ (lit [32])).size + (mDec y1).size ≤ 9223372036854775807 ∧
                                  (((((((rx weekL ((IntKind.i64.wrap (a0.tdiv 86400)).tmod 7)) ++ (lit [44, 32])) ++ (mL4Two (IntKind.i64.wrap ((IntKind.i64.wrap ((IntKind.i64.wrap (a0.tdiv 86400)) - (mDaysOf y1 y5 1))) + 1)))) ++ (lit [32])) ++ (rx monthL (IntKind.i64.wrap (y5 - 1)))) ++ (lit [32])) ++ (mDec y1)).size + (lit [32]).size ≤ 9223372036854775807 ∧
                                  (3600 : Int) ≠ 0 ∧
                                  (24 : Int) ≠ 0 ∧
                                  pL4Two ((IntKind.i64.wrap (a0.tdiv 3600)).tmod 24) ∧
                                  ((((((((rx weekL ((IntKind.i64.wrap (a0.tdiv 86400)).tmod 7)) ++ (lit [44, 32])) ++ (mL4Two (IntKind.i64.wrap ((IntKind.i64.wrap ((IntKind.i64.wrap (a0.tdiv 86400)) - (mDaysOf y1 y5 1))) + 1)))) ++ (lit [32])) ++ (rx monthL (IntKind.i64.wrap (y5 - 1)))) ++ (lit [32])) ++ (mDec y1)) ++ (lit [32])).size + (mL4Two ((IntKind.i64.wrap (a0.tdiv 3600)).tmod 24)).size ≤ 9223372036854775807 ∧
                                  (((((((((rx weekL ((IntKind.i64.wrap (a0.tdiv 86400)).tmod 7)) ++ (lit [44, 32])) ++ (mL4Two (IntKind.i64.wrap ((IntKind.i64.wrap ((IntKind.i64.wrap (a0.tdiv 86400)) - (mDaysOf y1 y5 1))) + 1)))) ++ (lit [32])) ++ (rx monthL (IntKind.i64.wrap (y5 - 1)))) ++ (lit [32])) ++ (mDec y1)) ++ (lit [32])) ++ (mL4Two ((IntKind.i64.wrap (a0.tdiv 3600)).tmod 24))).size + (lit [58]).size ≤ 9223372036854775807 ∧
                                  (60 : Int) ≠ 0 ∧
                                  (60 : Int) ≠ 0 ∧
                                  pL4Two ((IntKind.i64.wrap (a0.tdiv 60)).tmod 60) ∧
                                  ((((((((((rx weekL ((IntKind.i64.wrap (a0.tdiv 86400)).tmod 7)) ++ (lit [44, 32])) ++ (mL4Two (IntKind.i64.wrap ((IntKind.i64.wrap ((IntKind.i64.wrap (a0.tdiv 86400)) - (mDaysOf y1 y5 1))) + 1)))) ++ (lit [32])) ++ (rx monthL (IntKind.i64.wrap (y5 - 1)))) ++ (lit [32])) ++ (mDec y1)) ++ (lit [32])) ++ (mL4Two ((IntKind.i64.wrap (a0.tdiv 3600)).tmod 24))) ++ (lit [58])).size + (mL4Two ((IntKind.i64.wrap (a0.tdiv 60)).tmod 60)).size ≤ 9223372036854775807 ∧
                                  (((((((((((rx weekL ((IntKind.i64.wrap (a0.tdiv 86400)).tmod 7)) ++ (lit [44, 32])) ++ (mL4Two (IntKind.i64.wrap ((IntKind.i64.wrap ((IntKind.i64.wrap (a0.tdiv 86400)) - (mDaysOf y1 y5 1))) + 1)))) ++ (lit [32])) ++ (rx monthL (IntKind.i64.wrap (y5 - 1)))) ++ (lit [32])) ++ (mDec y1)) ++ (lit [32])) ++ (mL4Two ((IntKind.i64.wrap (a0.tdiv 3600)).tmod 24))) ++ (lit [58])) ++ (mL4Two ((IntKind.i64.wrap (a0.tdiv 60)).tmod 60))).size + (lit [58]).size ≤ 9223372036854775807 ∧
                                  (60 : Int) ≠ 0 ∧
                                  pL4Two (a0.tmod 60) ∧
                                  ((((((((((((rx weekL ((IntKind.i64.wrap (a0.tdiv 86400)).tmod 7)) ++ (lit [44, 32])) ++ (mL4Two (IntKind.i64.wrap ((IntKind.i64.wrap ((IntKind.i64.wrap (a0.tdiv 86400)) - (mDaysOf y1 y5 1))) + 1)))) ++ (lit [32])) ++ (rx monthL (IntKind.i64.wrap (y5 - 1)))) ++ (lit [32])) ++ (mDec y1)) ++ (lit [32])) ++ (mL4Two ((IntKind.i64.wrap (a0.tdiv 3600)).tmod 24))) ++ (lit [58])) ++ (mL4Two ((IntKind.i64.wrap (a0.tdiv 60)).tmod 60))) ++ (lit [58])).size + (mL4Two (a0.tmod 60)).size ≤ 9223372036854775807 ∧
                                  (((((((((((((rx weekL ((IntKind.i64.wrap (a0.tdiv 86400)).tmod 7)) ++ (lit [44, 32])) ++ (mL4Two (IntKind.i64.wrap ((IntKind.i64.wrap ((IntKind.i64.wrap (a0.tdiv 86400)) - (mDaysOf y1 y5 1))) + 1)))) ++ (lit [32])) ++ (rx monthL (IntKind.i64.wrap (y5 - 1)))) ++ (lit [32])) ++ (mDec y1)) ++ (lit [32])) ++ (mL4Two ((IntKind.i64.wrap (a0.tdiv 3600)).tmod 24))) ++ (lit [58])) ++ (mL4Two ((IntKind.i64.wrap (a0.tdiv 60)).tmod 60))) ++ (lit [58])) ++ (mL4Two (a0.tmod 60))).size + (lit [32, 71, 77, 84]).size ≤ 9223372036854775807 ∧
                                  (Q ((((((((((((((rx weekL ((IntKind.i64.wrap (a0.tdiv 86400)).tmod 7)) ++ (lit [44, 32])) ++ (mL4Two (IntKind.i64.wrap ((IntKind.i64.wrap ((IntKind.i64.wrap (a0.tdiv 86400)) - (mDaysOf y1 y5 1))) + 1)))) ++ (lit [32])) ++ (rx monthL (IntKind.i64.wrap (y5 - 1)))) ++ (lit [32])) ++ (mDec y1)) ++ (lit [32])) ++ (mL4Two ((IntKind.i64.wrap (a0.tdiv 3600)).tmod 24))) ++ (lit [58])) ++ (mL4Two ((IntKind.i64.wrap (a0.tdiv 60)).tmod 60))) ++ (lit [58])) ++ (mL4Two (a0.tmod 60))) ++ (lit [32, 71, 77, 84]))))) ∧
                              (¬ (y5 < 12) →
                                pDaysOf y1 y5 1 ∧
                                (7 : Int) ≠ 0 ∧
                                0 ≤ ((IntKind.i64.wrap (a0.tdiv 86400)).tmod 7) ∧
                                ((IntKind.i64.wrap (a0.tdiv 86400)).tmod 7) < (weekL.length : Int) ∧
                                0 ≤ (IntKind.i64.wrap (y5 - 1)) ∧
                                (IntKind.i64.wrap (y5 - 1)) < (monthL.length : Int) ∧
                                (rx weekL ((IntKind.i64.wrap (a0.tdiv 86400)).tmod 7)).size + (lit [44, 32]).size ≤ 9223372036854775807 ∧
                                pL4Two (IntKind.i64.wrap ((IntKind.i64.wrap ((IntKind.i64.wrap (a0.tdiv 86400)) - (mDaysOf y1 y5 1))) + 1)) ∧
                                ((rx weekL ((IntKind.i64.wrap (a0.tdiv 86400)).tmod 7)) ++ (lit [44, 32])).size + (mL4Two (IntKind.i64.wrap ((IntKind.i64.wrap ((IntKind.i64.wrap (a0.tdiv 86400)) - (mDaysOf y1 y5 1))) + 1))).size ≤ 9223372036854775807 ∧
                                (((rx weekL ((IntKind.i64.wrap (a0.tdiv 86400)).tmod 7)) ++ (lit [44, 32])) ++ (mL4Two (IntKind.i64.wrap ((IntKind.i64.wrap ((IntKind.i64.wrap (a0.tdiv 86400)) - (mDaysOf y1 y5 1))) + 1)))).size + (lit [32]).size ≤ 9223372036854775807 ∧
                                ((((rx weekL ((IntKind.i64.wrap (a0.tdiv 86400)).tmod 7)) ++ (lit [44, 32])) ++ (mL4Two (IntKind.i64.wrap ((IntKind.i64.wrap ((IntKind.i64.wrap (a0.tdiv 86400)) - (mDaysOf y1 y5 1))) + 1)))) ++ (lit [32])).size + (rx monthL (IntKind.i64.wrap (y5 - 1))).size ≤ 9223372036854775807 ∧
                                (((((rx weekL ((IntKind.i64.wrap (a0.tdiv 86400)).tmod 7)) ++ (lit [44, 32])) ++ (mL4Two (IntKind.i64.wrap ((IntKind.i64.wrap ((IntKind.i64.wrap (a0.tdiv 86400)) - (mDaysOf y1 y5 1))) + 1)))) ++ (lit [32])) ++ (rx monthL (IntKind.i64.wrap (y5 - 1)))).size + (lit [32]).size ≤ 9223372036854775807 ∧
                                pDec y1 ∧
                                ((((((rx weekL ((IntKind.i64.wrap (a0.tdiv 86400)).tmod 7)) ++ (lit [44, 32])) ++ (mL4Two (IntKind.i64.wrap ((IntKind.i64.wrap ((IntKind.i64.wrap (a0.tdiv 86400)) - (mDaysOf y1 y5 1))) + 1)))) ++ (lit [32])) ++ (rx monthL (IntKind.i64.wrap (y5 - 1)))) ++ (lit [32])).size + (mDec y1).size ≤ 9223372036854775807 ∧
                                (((((((rx weekL ((IntKind.i64.wrap (a0.tdiv 86400)).tmod 7)) ++ (lit [44, 32])) ++ (mL4Two (IntKind.i64.wrap ((IntKind.i64.wrap ((IntKind.i64.wrap (a0.tdiv 86400)) - (mDaysOf y1 y5 1))) + 1)))) ++ (lit [32])) ++ (rx monthL (IntKind.i64.wrap (y5 - 1)))) ++ (lit [32])) ++ (mDec y1)).size + (lit [32]).size ≤ 9223372036854775807 ∧
                                (3600 : Int) ≠ 0 ∧
                                (24 : Int) ≠ 0 ∧
                                pL4Two ((IntKind.i64.wrap (a0.tdiv 3600)).tmod 24) ∧
                                ((((((((rx weekL ((IntKind.i64.wrap (a0.tdiv 86400)).tmod 7)) ++ (lit [44, 32])) ++ (mL4Two (IntKind.i64.wrap ((IntKind.i64.wrap ((IntKind.i64.wrap (a0.tdiv 86400)) - (mDaysOf y1 y5 1))) + 1)))) ++ (lit [32])) ++ (rx monthL (IntKind.i64.wrap (y5 - 1)))) ++ (lit [32])) ++ (mDec y1)) ++ (lit [32])).size + (mL4Two ((IntKind.i64.wrap (a0.tdiv 3600)).tmod 24)).size ≤ 9223372036854775807 ∧
                                (((((((((rx weekL ((IntKind.i64.wrap (a0.tdiv 86400)).tmod 7)) ++ (lit [44, 32])) ++ (mL4Two (IntKind.i64.wrap ((IntKind.i64.wrap ((IntKind.i64.wrap (a0.tdiv 86400)) - (mDaysOf y1 y5 1))) + 1)))) ++ (lit [32])) ++ (rx monthL (IntKind.i64.wrap (y5 - 1)))) ++ (lit [32])) ++ (mDec y1)) ++ (lit [32])) ++ (mL4Two ((IntKind.i64.wrap (a0.tdiv 3600)).tmod 24))).size + (lit [58]).size ≤ 9223372036854775807 ∧
                                (60 : Int) ≠ 0 ∧
                                (60 : Int) ≠ 0 ∧
                                pL4Two ((IntKind.i64.wrap (a0.tdiv 60)).tmod 60) ∧
                                ((((((((((rx weekL ((IntKind.i64.wrap (a0.tdiv 86400)).tmod 7)) ++ (lit [44, 32])) ++ (mL4Two (IntKind.i64.wrap ((IntKind.i64.wrap ((IntKind.i64.wrap (a0.tdiv 86400)) - (mDaysOf y1 y5 1))) + 1)))) ++ (lit [32])) ++ (rx monthL (IntKind.i64.wrap (y5 - 1)))) ++ (lit [32])) ++ (mDec y1)) ++ (lit [32])) ++ (mL4Two ((IntKind.i64.wrap (a0.tdiv 3600)).tmod 24))) ++ (lit [58])).size + (mL4Two ((IntKind.i64.wrap (a0.tdiv 60)).tmod 60)).size ≤ 9223372036854775807 ∧
                                (((((((((((rx weekL ((IntKind.i64.wrap (a0.tdiv 86400)).tmod 7)) ++ (lit [44, 32])) ++ (mL4Two (IntKind.i64.wrap ((IntKind.i64.wrap ((IntKind.i64.wrap (a0.tdiv 86400)) - (mDaysOf y1 y5 1))) + 1)))) ++ (lit [32])) ++ (rx monthL (IntKind.i64.wrap (y5 - 1)))) ++ (lit [32])) ++ (mDec y1)) ++ (lit [32])) ++ (mL4Two ((IntKind.i64.wrap (a0.tdiv 3600)).tmod 24))) ++ (lit [58])) ++ (mL4Two ((IntKind.i64.wrap (a0.tdiv 60)).tmod 60))).size + (lit [58]).size ≤ 9223372036854775807 ∧
                                (60 : Int) ≠ 0 ∧
                                pL4Two (a0.tmod 60) ∧
                                ((((((((((((rx weekL ((IntKind.i64.wrap (a0.tdiv 86400)).tmod 7)) ++ (lit [44, 32])) ++ (mL4Two (IntKind.i64.wrap ((IntKind.i64.wrap ((IntKind.i64.wrap (a0.tdiv 86400)) - (mDaysOf y1 y5 1))) + 1)))) ++ (lit [32])) ++ (rx monthL (IntKind.i64.wrap (y5 - 1)))) ++ (lit [32])) ++ (mDec y1)) ++ (lit [32])) ++ (mL4Two ((IntKind.i64.wrap (a0.tdiv 3600)).tmod 24))) ++ (lit [58])) ++ (mL4Two ((IntKind.i64.wrap (a0.tdiv 60)).tmod 60))) ++ (lit [58])).size + (mL4Two (a0.tmod 60)).size ≤ 9223372036854775807 ∧
                                (((((((((((((rx weekL ((IntKind.i64.wrap (a0.tdiv 86400)).tmod 7)) ++ (lit [44, 32])) ++ (mL4Two (IntKind.i64.wrap ((IntKind.i64.wrap ((IntKind.i64.wrap (a0.tdiv 86400)) - (mDaysOf y1 y5 1))) + 1)))) ++ (lit [32])) ++ (rx monthL (IntKind.i64.wrap (y5 - 1)))) ++ (lit [32])) ++ (mDec y1)) ++ (lit [32])) ++ (mL4Two ((IntKind.i64.wrap (a0.tdiv 3600)).tmod 24))) ++ (lit [58])) ++ (mL4Two ((IntKind.i64.wrap (a0.tdiv 60)).tmod 60))) ++ (lit [58])) ++ (mL4Two (a0.tmod 60))).size + (lit [32, 71, 77, 84]).size ≤ 9223372036854775807 ∧
                                (Q ((((((((((((((rx weekL ((IntKind.i64.wrap (a0.tdiv 86400)).tmod 7)) ++ (lit [44, 32])) ++ (mL4Two (IntKind.i64.wrap ((IntKind.i64.wrap ((IntKind.i64.wrap (a0.tdiv 86400)) - (mDaysOf y1 y5 1))) + 1)))) ++ (lit [32])) ++ (rx monthL (IntKind.i64.wrap (y5 - 1)))) ++ (lit [32])) ++ (mDec y1)) ++ (lit [32])) ++ (mL4Two ((IntKind.i64.wrap (a0.tdiv 3600)).tmod 24))) ++ (lit [58])) ++ (mL4Two ((IntKind.i64.wrap (a0.tdiv 60)).tmod 60))) ++ (lit [58])) ++ (mL4Two (a0.tmod 60))) ++ (lit [32, 71, 77, 84]))))
                            ) →
                            (L4 y5)))
                      ) →
                      (L4 1))))
              ) →
              (L0 y1)))
        ) →
        (L0 1970))))

def s_spec_l4Months (a0 : Int) (Q : ((List Int) → Prop)) : Prop :=
  pIsLeap a0 ∧
  ((mIsLeap a0) = true →
    (Q [31, 29, 31, 30, 31, 30, 31, 31, 30, 31, 30, 31])) ∧
  (¬ ((mIsLeap a0) = true) →
    (Q [31, 28, 31, 30, 31, 30, 31, 31, 30, 31, 30, 31]))

def s_spec_l4Two (a0 : Int) (Q : (S → Prop)) : Prop :=
  (10 : Int) ≠ 0 ∧
  (10 : Int) ≠ 0 ∧
  (10 : Int) ≠ 0 ∧
  (Q (strOf [(IntKind.u8.wrap (IntKind.i64.wrap (48 + ((IntKind.i64.wrap (a0.tdiv 10)).tmod 10)))), (IntKind.u8.wrap (IntKind.i64.wrap (48 + (a0.tmod 10))))]))

end Go.Ev
end

section
/- Laws of the plain library: the calendar. -/
set_option linter.unusedVariables false
namespace Go.Ev
theorem tmodI {n k : Int} (h : 0 ≤ n) : n.tmod k = n % k := Int.tmod_eq_emod_of_nonneg h
theorem tdivI {n k : Int} (h : 0 ≤ n) : n.tdiv k = n / k := Int.tdiv_eq_ediv_of_nonneg h
def monthsB (b : Bool) : List Int := if b = true then [31, 29, 31, 30, 31, 30, 31, 31, 30, 31, 30, 31] else [31, 28, 31, 30, 31, 30, 31, 31, 30, 31, 30, 31]
theorem monthDays_tab : ∀ (b : Bool) (m : Fin 12), 28 ≤ rx (monthsB b) ((m.val : Nat) : Int) ∧ rx (monthsB b) ((m.val : Nat) : Int) ≤ 31 := by decide +kernel
theorem monthDays_range (y : Int) {m : Int} (h1 : 1 ≤ m) (h2 : m ≤ 12) : 28 ≤ mMonthDays y m ∧ mMonthDays y m ≤ 31 := by
  have := monthDays_tab (mIsLeap y) ⟨(m - 1).toNat, by omega⟩
  simp only at this
  rw [show (((m - 1).toNat : Nat) : Int) = m - 1 by omega] at this
  exact this
theorem yearDays_range (y : Int) : 365 ≤ mYearDays y ∧ mYearDays y ≤ 366 := by
  unfold mYearDays
  split <;> omega
theorem months_len (y : Int) : (mL4Months y).length = 12 := by unfold mL4Months; split <;> rfl
theorem daysM_tab : ∀ b : Bool, 0 + rx (monthsB b) 0 + rx (monthsB b) 1 + rx (monthsB b) 2 + rx (monthsB b) 3 + rx (monthsB b) 4 + rx (monthsB b) 5 + rx (monthsB b) 6 + rx (monthsB b) 7 + rx (monthsB b) 8 + rx (monthsB b) 9 + rx (monthsB b) 10 + rx (monthsB b) 11 = if b = true then 366 else 365 := by decide +kernel
theorem daysM_year (y : Int) : daysM y 12 = mYearDays y := daysM_tab (mIsLeap y)
theorem daysM_range (y : Int) : ∀ j : Nat, j ≤ 12 → 28 * (j : Int) ≤ daysM y j ∧ daysM y j ≤ 31 * j
  | 0, _ => by simp [daysM]
  | j + 1, h => by
    have h1 := daysM_range y j (by omega)
    have h2 := monthDays_range y (m := (j : Int) + 1) (by omega) (by omega)
    simp only [daysM]
    omega
theorem daysM_mono (y : Int) : ∀ {j k : Nat}, j ≤ k → k ≤ 12 → daysM y j ≤ daysM y k
  | j, 0, h, _ => by have : j = 0 := by omega
                     subst this; exact Int.le_refl _
  | j, k + 1, h, hk => by
    by_cases e : j = k + 1
    · subst e; exact Int.le_refl _
    · have h1 := daysM_mono y (j := j) (k := k) (by omega) (by omega)
      have h2 := monthDays_range y (m := (k : Int) + 1) (by omega) (by omega)
      simp only [daysM]
      omega
theorem daysY_range : ∀ k : Nat, 365 * (k : Int) ≤ daysY k ∧ daysY k ≤ 366 * k
  | 0 => by simp [daysY]
  | k + 1 => by
    have h1 := daysY_range k
    have h2 := yearDays_range (1970 + (k : Int))
    simp only [daysY]
    omega
theorem daysY_mono : ∀ {j k : Nat}, j ≤ k → daysY j ≤ daysY k
  | j, 0, h => by have : j = 0 := by omega
                  subst this; exact Int.le_refl _
  | j, k + 1, h => by
    by_cases e : j = k + 1
    · subst e; exact Int.le_refl _
    · have h1 := daysY_mono (j := j) (k := k) (by omega)
      have h2 := yearDays_range (1970 + (k : Int))
      simp only [daysY]
      omega
theorem civil_year {n : Int} {k j : Nat} (h : civil n k j) : daysY k ≤ n ∧ n < daysY (k + 1) := by
  obtain ⟨h1, h2, h3, h4⟩ := h
  have h5 := daysM_range (1970 + (k : Int)) j (by omega)
  have h6 := daysM_mono (1970 + (k : Int)) (j := j + 1) (k := 12) (by omega) (by omega)
  rw [daysM_year] at h6
  simp only [daysY]
  omega
theorem civil_uniq {n : Int} {k j k' j' : Nat} (h : civil n k j) (h' : civil n k' j') : k = k' ∧ j = j' := by
  have a := civil_year h
  have b := civil_year h'
  have e : k = k' := by
    rcases Nat.lt_trichotomy k k' with hl | hl | hl
    · have := daysY_mono (j := k + 1) (k := k') hl; omega
    · exact hl
    · have := daysY_mono (j := k' + 1) (k := k) hl; omega
  subst e
  refine ⟨rfl, ?_⟩
  obtain ⟨h1, h2, h3, h4⟩ := h
  obtain ⟨g1, g2, g3, g4⟩ := h'
  rcases Nat.lt_trichotomy j j' with hl | hl | hl
  · have := daysM_mono (1970 + (k : Int)) (j := j + 1) (k := j') hl (by omega); omega
  · exact hl
  · have := daysM_mono (1970 + (k : Int)) (j := j' + 1) (k := j) hl (by omega); omega
theorem showDate_at {a : Int} {k j : Nat} (h0 : 0 ≤ a) (h1 : a ≤ 2000000000) (h : civil (a / 86400) k j) : mShowDate a = showT a (1970 + (k : Int)) (j : Int) (a / 86400 - daysY k - daysM (1970 + (k : Int)) j + 1) := by
  have hx : 0 ≤ a ∧ a ≤ 2000000000 ∧ ∃ p : Nat × Nat, civil (a / 86400) p.1 p.2 := ⟨h0, h1, (k, j), h⟩
  unfold mShowDate
  rw [dif_pos hx]
  obtain ⟨e1, e2⟩ := civil_uniq (Classical.choose_spec hx.2.2) h
  rw [e1, e2]
theorem daysY_67 : daysY 64 = 23376 := by decide +kernel
theorem civil_ex {n : Int} (h0 : 0 ≤ n) (h1 : n < 23376) : ∃ k j, civil n k j ∧ k < 64 := by
  have yr : ∀ k : Nat, n < daysY k → ∃ i, i < k ∧ daysY i ≤ n ∧ n < daysY (i + 1) := fun k => by
    induction k with
    | zero => intro h; simp [daysY] at h; omega
    | succ k ih =>
      intro h
      by_cases hk : n < daysY k
      · obtain ⟨i, hi, h2⟩ := ih hk
        exact ⟨i, by omega, h2⟩
      · exact ⟨k, by omega, by omega, h⟩
  obtain ⟨k, hk, h2, h3⟩ := yr 64 (by rw [daysY_67]; exact h1)
  have mo : ∀ j : Nat, n < daysY k + daysM (1970 + (k : Int)) j → ∃ i, i < j ∧ daysY k + daysM (1970 + (k : Int)) i ≤ n ∧ n < daysY k + daysM (1970 + (k : Int)) (i + 1) := fun j => by
    induction j with
    | zero => intro h; simp [daysM] at h; omega
    | succ j ih =>
      intro h
      by_cases hj : n < daysY k + daysM (1970 + (k : Int)) j
      · obtain ⟨i, hi, h4⟩ := ih hj
        exact ⟨i, by omega, h4⟩
      · exact ⟨j, by omega, by omega, h⟩
  obtain ⟨j, hj, h4, h5⟩ := mo 12 (by rw [daysM_year]; simp only [daysY] at h3; omega)
  exact ⟨k, j, ⟨by omega, hj, h4, h5⟩, hk⟩
end Go.Ev
end

section
/- What the program's functions come to, each by itself: printed by a program of this session's own (EwShow) out of the small machine. -/
set_option linter.unusedVariables false
namespace Go.Ev

def s_impl_FieldGet (a0 : (List Fld)) (a1 : S) (Q : ((S × Bool) → Prop)) : Prop :=
  (∀ L0 : (((List S) × Int) → Prop),
    ((
        (∀ y1 : ((List S) × Int),
          ((
              (y1.2 < (a0.length : Int) →
                0 ≤ y1.2 ∧
                y1.2 < (a0.length : Int) ∧
                ((rx a0 y1.2).1 = a1 →
                  (y1.1.length + [(rx a0 y1.2).2].length) * 16 ≤ 140737488355328 ∧
                  (L0 ((y1.1 ++ [(rx a0 y1.2).2]), (IntKind.i64.wrap (y1.2 + 1))))) ∧
                (¬ ((rx a0 y1.2).1 = a1) →
                  (L0 (y1.1, (IntKind.i64.wrap (y1.2 + 1)))))) ∧
              (¬ (y1.2 < (a0.length : Int)) →
                pJoin y1.1 (lit [44, 32]) ∧
                (Q ((mJoin y1.1 (lit [44, 32])), (decide (0 < (y1.1.length : Int))))))
            ) →
            (L0 y1)))
      ) →
      (L0 ([], 0))))

def s_impl_SplitList (a0 : S) (Q : ((List S) → Prop)) : Prop :=
  pCommas a0 ∧
  ((mCommas a0).length + [(a0.size : Int)].length) * 8 ≤ 140737488355328 ∧
  (∀ L0 : (((List S) × (Int × Int)) → Prop),
    ((
        (∀ y1 : ((List S) × (Int × Int)),
          ((
              (y1.2.2 < (((mCommas a0) ++ [(a0.size : Int)]).length : Int) →
                0 ≤ y1.2.2 ∧
                y1.2.2 < (((mCommas a0) ++ [(a0.size : Int)]).length : Int) ∧
                0 ≤ y1.2.1 ∧
                y1.2.1 ≤ (rx ((mCommas a0) ++ [(a0.size : Int)]) y1.2.2) ∧
                (rx ((mCommas a0) ++ [(a0.size : Int)]) y1.2.2) ≤ (a0.size : Int) ∧
                pTrim (a0.extract y1.2.1.toNat (rx ((mCommas a0) ++ [(a0.size : Int)]) y1.2.2).toNat) ∧
                ((mTrim (a0.extract y1.2.1.toNat (rx ((mCommas a0) ++ [(a0.size : Int)]) y1.2.2).toNat)) ≠ (lit []) →
                  (y1.1.length + [(mTrim (a0.extract y1.2.1.toNat (rx ((mCommas a0) ++ [(a0.size : Int)]) y1.2.2).toNat))].length) * 16 ≤ 140737488355328 ∧
                  (L0 ((y1.1 ++ [(mTrim (a0.extract y1.2.1.toNat (rx ((mCommas a0) ++ [(a0.size : Int)]) y1.2.2).toNat))]), (IntKind.i64.wrap ((rx ((mCommas a0) ++ [(a0.size : Int)]) y1.2.2) + 1)), (IntKind.i64.wrap (y1.2.2 + 1))))) ∧
                (¬ ((mTrim (a0.extract y1.2.1.toNat (rx ((mCommas a0) ++ [(a0.size : Int)]) y1.2.2).toNat)) ≠ (lit [])) →
                  (L0 (y1.1, (IntKind.i64.wrap ((rx ((mCommas a0) ++ [(a0.size : Int)]) y1.2.2) + 1)), (IntKind.i64.wrap (y1.2.2 + 1)))))) ∧
              (¬ (y1.2.2 < (((mCommas a0) ++ [(a0.size : Int)]).length : Int)) →
                (Q y1.1))
            ) →
            (L0 y1)))
      ) →
      (L0 ([], 0, 0))))

def s_impl_Trim (a0 : S) (Q : (S → Prop)) : Prop :=
  pTrimL a0 (lit [32, 9]) ∧
  (Q (mTrimL a0 (lit [32, 9])))

def s_impl_commas (a0 : S) (Q : ((List Int) → Prop)) : Prop :=
  (∀ L0 : (((List Int) × (Bool × Int)) → Prop),
    ((
        (∀ y1 : ((List Int) × (Bool × Int)),
          ((
              (y1.2.2 < (a0.size : Int) →
                0 ≤ y1.2.2 ∧
                y1.2.2 < (a0.size : Int) ∧
                ((bt a0 y1.2.2) = 34 →
                  (L0 (y1.1, (decide (¬ (y1.2.1 = true))), (IntKind.i64.wrap (y1.2.2 + 1))))) ∧
                (¬ ((bt a0 y1.2.2) = 34) →
                  (y1.2.1 = true →
                    0 ≤ y1.2.2 ∧
                    y1.2.2 < (a0.size : Int) ∧
                    ((bt a0 y1.2.2) = 92 →
                      (L0 (y1.1, y1.2.1, (IntKind.i64.wrap ((IntKind.i64.wrap (y1.2.2 + 1)) + 1))))) ∧
                    (¬ ((bt a0 y1.2.2) = 92) →
                      (¬ (y1.2.1 = true) →
                        0 ≤ y1.2.2 ∧
                        y1.2.2 < (a0.size : Int) ∧
                        ((bt a0 y1.2.2) = 44 →
                          (y1.1.length + [y1.2.2].length) * 8 ≤ 140737488355328 ∧
                          (L0 ((y1.1 ++ [y1.2.2]), y1.2.1, (IntKind.i64.wrap (y1.2.2 + 1))))) ∧
                        (¬ ((bt a0 y1.2.2) = 44) →
                          (L0 (y1.1, y1.2.1, (IntKind.i64.wrap (y1.2.2 + 1)))))) ∧
                      (¬ (¬ (y1.2.1 = true)) →
                        (L0 (y1.1, y1.2.1, (IntKind.i64.wrap (y1.2.2 + 1))))))) ∧
                  (¬ (y1.2.1 = true) →
                    (¬ (y1.2.1 = true) →
                      0 ≤ y1.2.2 ∧
                      y1.2.2 < (a0.size : Int) ∧
                      ((bt a0 y1.2.2) = 44 →
                        (y1.1.length + [y1.2.2].length) * 8 ≤ 140737488355328 ∧
                        (L0 ((y1.1 ++ [y1.2.2]), y1.2.1, (IntKind.i64.wrap (y1.2.2 + 1))))) ∧
                      (¬ ((bt a0 y1.2.2) = 44) →
                        (L0 (y1.1, y1.2.1, (IntKind.i64.wrap (y1.2.2 + 1)))))) ∧
                    (¬ (¬ (y1.2.1 = true)) →
                      (L0 (y1.1, y1.2.1, (IntKind.i64.wrap (y1.2.2 + 1)))))))) ∧
              (¬ (y1.2.2 < (a0.size : Int)) →
                (Q y1.1))
            ) →
            (L0 y1)))
      ) →
      (L0 ([], false, 0))))

def s_impl_in (a0 : Int) (a1 : Int) (a2 : Int) (Q : (Bool → Prop)) : Prop :=
  (a1 ≤ a0 →
    (Q (decide (a0 ≤ a2)))) ∧
  (¬ (a1 ≤ a0) →
    (Q false))

def s_slices_Index_string (a0 : (List S)) (a1 : S) (Q : (Int → Prop)) : Prop :=
  (∀ L0 : (Int → Prop),
    ((
        (∀ y1 : Int,
          ((
              (y1 < (a0.length : Int) →
                0 ≤ y1 ∧
                y1 < (a0.length : Int) ∧
                (a1 = (rx a0 y1) →
                  (Q y1)) ∧
                (¬ (a1 = (rx a0 y1)) →
                  (L0 (IntKind.i64.wrap (y1 + 1))))) ∧
              (¬ (y1 < (a0.length : Int)) →
                (Q (-1)))
            ) →
            (L0 y1)))
      ) →
      (L0 0)))

def s_spec_Dec (a0 : Int) (Q : (S → Prop)) : Prop :=
  (a0 = 0 →
    (Q (lit [48]))) ∧
  (¬ (a0 = 0) →
    (∀ L0 : ((Int × S) → Prop),
      ((
          (∀ y1 : (Int × S),
            ((
                (y1.1 ≠ 0 →
                  (10 : Int) ≠ 0 ∧
                  ((y1.1.tmod 10) < 0 →
                    (strOf [(IntKind.u8.wrap (IntKind.i64.wrap (48 + (IntKind.i64.wrap (0 - (y1.1.tmod 10))))))]).size + y1.2.size ≤ 9223372036854775807 ∧
                    (10 : Int) ≠ 0 ∧
                    (L0 ((IntKind.i64.wrap (y1.1.tdiv 10)), ((strOf [(IntKind.u8.wrap (IntKind.i64.wrap (48 + (IntKind.i64.wrap (0 - (y1.1.tmod 10))))))]) ++ y1.2)))) ∧
                  (¬ ((y1.1.tmod 10) < 0) →
                    (strOf [(IntKind.u8.wrap (IntKind.i64.wrap (48 + (y1.1.tmod 10))))]).size + y1.2.size ≤ 9223372036854775807 ∧
                    (10 : Int) ≠ 0 ∧
                    (L0 ((IntKind.i64.wrap (y1.1.tdiv 10)), ((strOf [(IntKind.u8.wrap (IntKind.i64.wrap (48 + (y1.1.tmod 10))))]) ++ y1.2))))) ∧
                (¬ (y1.1 ≠ 0) →
                  (a0 < 0 →
                    (lit [45]).size + y1.2.size ≤ 9223372036854775807 ∧
                    (Q ((lit [45]) ++ y1.2))) ∧
                  (¬ (a0 < 0) →
                    (Q y1.2)))
              ) →
              (L0 y1)))
        ) →
        (L0 (a0, (lit []))))))

def s_spec_FieldGet (a0 : (List Fld)) (a1 : S) (Q : ((S × Bool) → Prop)) : Prop :=
  (∀ L0 : ((S × (Bool × Int)) → Prop),
    ((
        (∀ y1 : (S × (Bool × Int)),
          ((
              (y1.2.2 < (a0.length : Int) →
                0 ≤ y1.2.2 ∧
                y1.2.2 < (a0.length : Int) ∧
                ((rx a0 y1.2.2).1 ≠ a1 →
                  (L0 (y1.1, y1.2.1, (IntKind.i64.wrap (y1.2.2 + 1))))) ∧
                (¬ ((rx a0 y1.2.2).1 ≠ a1) →
                  (y1.2.1 = true →
                    y1.1.size + (lit [44, 32]).size ≤ 9223372036854775807 ∧
                    0 ≤ y1.2.2 ∧
                    y1.2.2 < (a0.length : Int) ∧
                    (y1.1 ++ (lit [44, 32])).size + (rx a0 y1.2.2).2.size ≤ 9223372036854775807 ∧
                    (L0 (((y1.1 ++ (lit [44, 32])) ++ (rx a0 y1.2.2).2), true, (IntKind.i64.wrap (y1.2.2 + 1))))) ∧
                  (¬ (y1.2.1 = true) →
                    0 ≤ y1.2.2 ∧
                    y1.2.2 < (a0.length : Int) ∧
                    y1.1.size + (rx a0 y1.2.2).2.size ≤ 9223372036854775807 ∧
                    (L0 ((y1.1 ++ (rx a0 y1.2.2).2), true, (IntKind.i64.wrap (y1.2.2 + 1))))))) ∧
              (¬ (y1.2.2 < (a0.length : Int)) →
                (Q (y1.1, y1.2.1)))
            ) →
            (L0 y1)))
      ) →
      (L0 ((lit []), false, 0))))

def s_spec_SplitList (a0 : S) (Q : ((List S) → Prop)) : Prop :=
  (∀ L0 : (((List S) × (Int × (Bool × Int))) → Prop),
    ((
        (∀ y1 : ((List S) × (Int × (Bool × Int))),
          ((
              (y1.2.2.2 ≤ (a0.size : Int) →
                (y1.2.2.2 < (a0.size : Int) →
                  0 ≤ y1.2.2.2 ∧
                  y1.2.2.2 < (a0.size : Int) ∧
                  ((bt a0 y1.2.2.2) = 34 →
                    (y1.2.2.2 < (a0.size : Int) →
                      (¬ (y1.2.2.1 = true) →
                        0 ≤ y1.2.2.2 ∧
                        y1.2.2.2 < (a0.size : Int) ∧
                        ((bt a0 y1.2.2.2) = 92 →
                          (L0 (y1.1, y1.2.1, (decide (¬ (y1.2.2.1 = true))), (IntKind.i64.wrap ((IntKind.i64.wrap (y1.2.2.2 + 1)) + 1))))) ∧
                        (¬ ((bt a0 y1.2.2.2) = 92) →
                          ((a0.size : Int) ≤ y1.2.2.2 →
                            0 ≤ y1.2.1 ∧
                            y1.2.1 ≤ (if (a0.size : Int) < y1.2.2.2 then (a0.size : Int) else y1.2.2.2) ∧
                            (if (a0.size : Int) < y1.2.2.2 then (a0.size : Int) else y1.2.2.2) ≤ (a0.size : Int) ∧
                            pTrim (a0.extract y1.2.1.toNat (if (a0.size : Int) < y1.2.2.2 then (a0.size : Int) else y1.2.2.2).toNat) ∧
                            ((mTrim (a0.extract y1.2.1.toNat (if (a0.size : Int) < y1.2.2.2 then (a0.size : Int) else y1.2.2.2).toNat)) ≠ (lit []) →
                              (y1.1.length + [(mTrim (a0.extract y1.2.1.toNat (if (a0.size : Int) < y1.2.2.2 then (a0.size : Int) else y1.2.2.2).toNat))].length) * 16 ≤ 140737488355328 ∧
                              (L0 ((y1.1 ++ [(mTrim (a0.extract y1.2.1.toNat (if (a0.size : Int) < y1.2.2.2 then (a0.size : Int) else y1.2.2.2).toNat))]), (IntKind.i64.wrap (y1.2.2.2 + 1)), (decide (¬ (y1.2.2.1 = true))), (IntKind.i64.wrap (y1.2.2.2 + 1))))) ∧
                            (¬ ((mTrim (a0.extract y1.2.1.toNat (if (a0.size : Int) < y1.2.2.2 then (a0.size : Int) else y1.2.2.2).toNat)) ≠ (lit [])) →
                              (L0 (y1.1, (IntKind.i64.wrap (y1.2.2.2 + 1)), (decide (¬ (y1.2.2.1 = true))), (IntKind.i64.wrap (y1.2.2.2 + 1)))))) ∧
                          (¬ ((a0.size : Int) ≤ y1.2.2.2) →
                            0 ≤ y1.2.2.2 ∧
                            y1.2.2.2 < (a0.size : Int) ∧
                            ((bt a0 y1.2.2.2) = 44 →
                              (¬ (¬ (y1.2.2.1 = true)) →
                                0 ≤ y1.2.1 ∧
                                y1.2.1 ≤ (if (a0.size : Int) < y1.2.2.2 then (a0.size : Int) else y1.2.2.2) ∧
                                (if (a0.size : Int) < y1.2.2.2 then (a0.size : Int) else y1.2.2.2) ≤ (a0.size : Int) ∧
                                pTrim (a0.extract y1.2.1.toNat (if (a0.size : Int) < y1.2.2.2 then (a0.size : Int) else y1.2.2.2).toNat) ∧
                                ((mTrim (a0.extract y1.2.1.toNat (if (a0.size : Int) < y1.2.2.2 then (a0.size : Int) else y1.2.2.2).toNat)) ≠ (lit []) →
                                  (y1.1.length + [(mTrim (a0.extract y1.2.1.toNat (if (a0.size : Int) < y1.2.2.2 then (a0.size : Int) else y1.2.2.2).toNat))].length) * 16 ≤ 140737488355328 ∧
                                  (L0 ((y1.1 ++ [(mTrim (a0.extract y1.2.1.toNat (if (a0.size : Int) < y1.2.2.2 then (a0.size : Int) else y1.2.2.2).toNat))]), (IntKind.i64.wrap (y1.2.2.2 + 1)), (decide (¬ (y1.2.2.1 = true))), (IntKind.i64.wrap (y1.2.2.2 + 1))))) ∧
                                (¬ ((mTrim (a0.extract y1.2.1.toNat (if (a0.size : Int) < y1.2.2.2 then (a0.size : Int) else y1.2.2.2).toNat)) ≠ (lit [])) →
                                  (L0 (y1.1, (IntKind.i64.wrap (y1.2.2.2 + 1)), (decide (¬ (y1.2.2.1 = true))), (IntKind.i64.wrap (y1.2.2.2 + 1)))))) ∧
                              (¬ (¬ (¬ (y1.2.2.1 = true))) →
                                (L0 (y1.1, y1.2.1, (decide (¬ (y1.2.2.1 = true))), (IntKind.i64.wrap (y1.2.2.2 + 1)))))) ∧
                            (¬ ((bt a0 y1.2.2.2) = 44) →
                              (L0 (y1.1, y1.2.1, (decide (¬ (y1.2.2.1 = true))), (IntKind.i64.wrap (y1.2.2.2 + 1)))))))) ∧
                      (¬ (¬ (y1.2.2.1 = true)) →
                        ((a0.size : Int) ≤ y1.2.2.2 →
                          0 ≤ y1.2.1 ∧
                          y1.2.1 ≤ (if (a0.size : Int) < y1.2.2.2 then (a0.size : Int) else y1.2.2.2) ∧
                          (if (a0.size : Int) < y1.2.2.2 then (a0.size : Int) else y1.2.2.2) ≤ (a0.size : Int) ∧
                          pTrim (a0.extract y1.2.1.toNat (if (a0.size : Int) < y1.2.2.2 then (a0.size : Int) else y1.2.2.2).toNat) ∧
                          ((mTrim (a0.extract y1.2.1.toNat (if (a0.size : Int) < y1.2.2.2 then (a0.size : Int) else y1.2.2.2).toNat)) ≠ (lit []) →
                            (y1.1.length + [(mTrim (a0.extract y1.2.1.toNat (if (a0.size : Int) < y1.2.2.2 then (a0.size : Int) else y1.2.2.2).toNat))].length) * 16 ≤ 140737488355328 ∧
                            (L0 ((y1.1 ++ [(mTrim (a0.extract y1.2.1.toNat (if (a0.size : Int) < y1.2.2.2 then (a0.size : Int) else y1.2.2.2).toNat))]), (IntKind.i64.wrap (y1.2.2.2 + 1)), (decide (¬ (y1.2.2.1 = true))), (IntKind.i64.wrap (y1.2.2.2 + 1))))) ∧
                          (¬ ((mTrim (a0.extract y1.2.1.toNat (if (a0.size : Int) < y1.2.2.2 then (a0.size : Int) else y1.2.2.2).toNat)) ≠ (lit [])) →
                            (L0 (y1.1, (IntKind.i64.wrap (y1.2.2.2 + 1)), (decide (¬ (y1.2.2.1 = true))), (IntKind.i64.wrap (y1.2.2.2 + 1)))))) ∧
                        (¬ ((a0.size : Int) ≤ y1.2.2.2) →
                          0 ≤ y1.2.2.2 ∧
                          y1.2.2.2 < (a0.size : Int) ∧
                          ((bt a0 y1.2.2.2) = 44 →
                            (¬ (¬ (y1.2.2.1 = true)) →
                              0 ≤ y1.2.1 ∧
                              y1.2.1 ≤ (if (a0.size : Int) < y1.2.2.2 then (a0.size : Int) else y1.2.2.2) ∧
                              (if (a0.size : Int) < y1.2.2.2 then (a0.size : Int) else y1.2.2.2) ≤ (a0.size : Int) ∧
                              pTrim (a0.extract y1.2.1.toNat (if (a0.size : Int) < y1.2.2.2 then (a0.size : Int) else y1.2.2.2).toNat) ∧
                              ((mTrim (a0.extract y1.2.1.toNat (if (a0.size : Int) < y1.2.2.2 then (a0.size : Int) else y1.2.2.2).toNat)) ≠ (lit []) →
                                (y1.1.length + [(mTrim (a0.extract y1.2.1.toNat (if (a0.size : Int) < y1.2.2.2 then (a0.size : Int) else y1.2.2.2).toNat))].length) * 16 ≤ 140737488355328 ∧
                                (L0 ((y1.1 ++ [(mTrim (a0.extract y1.2.1.toNat (if (a0.size : Int) < y1.2.2.2 then (a0.size : Int) else y1.2.2.2).toNat))]), (IntKind.i64.wrap (y1.2.2.2 + 1)), (decide (¬ (y1.2.2.1 = true))), (IntKind.i64.wrap (y1.2.2.2 + 1))))) ∧
                              (¬ ((mTrim (a0.extract y1.2.1.toNat (if (a0.size : Int) < y1.2.2.2 then (a0.size : Int) else y1.2.2.2).toNat)) ≠ (lit [])) →
                                (L0 (y1.1, (IntKind.i64.wrap (y1.2.2.2 + 1)), (decide (¬ (y1.2.2.1 = true))), (IntKind.i64.wrap (y1.2.2.2 + 1)))))) ∧
                            (¬ (¬ (¬ (y1.2.2.1 = true))) →
                              (L0 (y1.1, y1.2.1, (decide (¬ (y1.2.2.1 = true))), (IntKind.i64.wrap (y1.2.2.2 + 1)))))) ∧
                          (¬ ((bt a0 y1.2.2.2) = 44) →
                            (L0 (y1.1, y1.2.1, (decide (¬ (y1.2.2.1 = true))), (IntKind.i64.wrap (y1.2.2.2 + 1)))))))) ∧
                    (¬ (y1.2.2.2 < (a0.size : Int)) →
                      ((a0.size : Int) ≤ y1.2.2.2 →
                        0 ≤ y1.2.1 ∧
                        y1.2.1 ≤ (if (a0.size : Int) < y1.2.2.2 then (a0.size : Int) else y1.2.2.2) ∧
                        (if (a0.size : Int) < y1.2.2.2 then (a0.size : Int) else y1.2.2.2) ≤ (a0.size : Int) ∧
                        pTrim (a0.extract y1.2.1.toNat (if (a0.size : Int) < y1.2.2.2 then (a0.size : Int) else y1.2.2.2).toNat) ∧
                        ((mTrim (a0.extract y1.2.1.toNat (if (a0.size : Int) < y1.2.2.2 then (a0.size : Int) else y1.2.2.2).toNat)) ≠ (lit []) →
                          (y1.1.length + [(mTrim (a0.extract y1.2.1.toNat (if (a0.size : Int) < y1.2.2.2 then (a0.size : Int) else y1.2.2.2).toNat))].length) * 16 ≤ 140737488355328 ∧
                          (L0 ((y1.1 ++ [(mTrim (a0.extract y1.2.1.toNat (if (a0.size : Int) < y1.2.2.2 then (a0.size : Int) else y1.2.2.2).toNat))]), (IntKind.i64.wrap (y1.2.2.2 + 1)), (decide (¬ (y1.2.2.1 = true))), (IntKind.i64.wrap (y1.2.2.2 + 1))))) ∧
                        (¬ ((mTrim (a0.extract y1.2.1.toNat (if (a0.size : Int) < y1.2.2.2 then (a0.size : Int) else y1.2.2.2).toNat)) ≠ (lit [])) →
                          (L0 (y1.1, (IntKind.i64.wrap (y1.2.2.2 + 1)), (decide (¬ (y1.2.2.1 = true))), (IntKind.i64.wrap (y1.2.2.2 + 1)))))) ∧
                      (¬ ((a0.size : Int) ≤ y1.2.2.2) →
                        0 ≤ y1.2.2.2 ∧
                        y1.2.2.2 < (a0.size : Int) ∧
                        ((bt a0 y1.2.2.2) = 44 →
                          (¬ (¬ (y1.2.2.1 = true)) →
                            0 ≤ y1.2.1 ∧
                            y1.2.1 ≤ (if (a0.size : Int) < y1.2.2.2 then (a0.size : Int) else y1.2.2.2) ∧
                            (if (a0.size : Int) < y1.2.2.2 then (a0.size : Int) else y1.2.2.2) ≤ (a0.size : Int) ∧
                            pTrim (a0.extract y1.2.1.toNat (if (a0.size : Int) < y1.2.2.2 then (a0.size : Int) else y1.2.2.2).toNat) ∧
                            ((mTrim (a0.extract y1.2.1.toNat (if (a0.size : Int) < y1.2.2.2 then (a0.size : Int) else y1.2.2.2).toNat)) ≠ (lit []) →
                              (y1.1.length + [(mTrim (a0.extract y1.2.1.toNat (if (a0.size : Int) < y1.2.2.2 then (a0.size : Int) else y1.2.2.2).toNat))].length) * 16 ≤ 140737488355328 ∧
                              (L0 ((y1.1 ++ [(mTrim (a0.extract y1.2.1.toNat (if (a0.size : Int) < y1.2.2.2 then (a0.size : Int) else y1.2.2.2).toNat))]), (IntKind.i64.wrap (y1.2.2.2 + 1)), (decide (¬ (y1.2.2.1 = true))), (IntKind.i64.wrap (y1.2.2.2 + 1))))) ∧
                            (¬ ((mTrim (a0.extract y1.2.1.toNat (if (a0.size : Int) < y1.2.2.2 then (a0.size : Int) else y1.2.2.2).toNat)) ≠ (lit [])) →
                              (L0 (y1.1, (IntKind.i64.wrap (y1.2.2.2 + 1)), (decide (¬ (y1.2.2.1 = true))), (IntKind.i64.wrap (y1.2.2.2 + 1)))))) ∧
                          (¬ (¬ (¬ (y1.2.2.1 = true))) →
                            (L0 (y1.1, y1.2.1, (decide (¬ (y1.2.2.1 = true))), (IntKind.i64.wrap (y1.2.2.2 + 1)))))) ∧
                        (¬ ((bt a0 y1.2.2.2) = 44) →
                          (L0 (y1.1, y1.2.1, (decide (¬ (y1.2.2.1 = true))), (IntKind.i64.wrap (y1.2.2.2 + 1)))))))) ∧
                  (¬ ((bt a0 y1.2.2.2) = 34) →
                    (y1.2.2.2 < (a0.size : Int) →
                      (y1.2.2.1 = true →
                        0 ≤ y1.2.2.2 ∧
                        y1.2.2.2 < (a0.size : Int) ∧
                        ((bt a0 y1.2.2.2) = 92 →
                          (L0 (y1.1, y1.2.1, y1.2.2.1, (IntKind.i64.wrap ((IntKind.i64.wrap (y1.2.2.2 + 1)) + 1))))) ∧
                        (¬ ((bt a0 y1.2.2.2) = 92) →
                          ((a0.size : Int) ≤ y1.2.2.2 →
                            0 ≤ y1.2.1 ∧
                            y1.2.1 ≤ (if (a0.size : Int) < y1.2.2.2 then (a0.size : Int) else y1.2.2.2) ∧
                            (if (a0.size : Int) < y1.2.2.2 then (a0.size : Int) else y1.2.2.2) ≤ (a0.size : Int) ∧
                            pTrim (a0.extract y1.2.1.toNat (if (a0.size : Int) < y1.2.2.2 then (a0.size : Int) else y1.2.2.2).toNat) ∧
                            ((mTrim (a0.extract y1.2.1.toNat (if (a0.size : Int) < y1.2.2.2 then (a0.size : Int) else y1.2.2.2).toNat)) ≠ (lit []) →
                              (y1.1.length + [(mTrim (a0.extract y1.2.1.toNat (if (a0.size : Int) < y1.2.2.2 then (a0.size : Int) else y1.2.2.2).toNat))].length) * 16 ≤ 140737488355328 ∧
                              (L0 ((y1.1 ++ [(mTrim (a0.extract y1.2.1.toNat (if (a0.size : Int) < y1.2.2.2 then (a0.size : Int) else y1.2.2.2).toNat))]), (IntKind.i64.wrap (y1.2.2.2 + 1)), y1.2.2.1, (IntKind.i64.wrap (y1.2.2.2 + 1))))) ∧
                            (¬ ((mTrim (a0.extract y1.2.1.toNat (if (a0.size : Int) < y1.2.2.2 then (a0.size : Int) else y1.2.2.2).toNat)) ≠ (lit [])) →
                              (L0 (y1.1, (IntKind.i64.wrap (y1.2.2.2 + 1)), y1.2.2.1, (IntKind.i64.wrap (y1.2.2.2 + 1)))))) ∧
                          (¬ ((a0.size : Int) ≤ y1.2.2.2) →
                            0 ≤ y1.2.2.2 ∧
                            y1.2.2.2 < (a0.size : Int) ∧
                            ((bt a0 y1.2.2.2) = 44 →
                              (¬ (y1.2.2.1 = true) →
                                0 ≤ y1.2.1 ∧
                                y1.2.1 ≤ (if (a0.size : Int) < y1.2.2.2 then (a0.size : Int) else y1.2.2.2) ∧
                                (if (a0.size : Int) < y1.2.2.2 then (a0.size : Int) else y1.2.2.2) ≤ (a0.size : Int) ∧
                                pTrim (a0.extract y1.2.1.toNat (if (a0.size : Int) < y1.2.2.2 then (a0.size : Int) else y1.2.2.2).toNat) ∧
                                ((mTrim (a0.extract y1.2.1.toNat (if (a0.size : Int) < y1.2.2.2 then (a0.size : Int) else y1.2.2.2).toNat)) ≠ (lit []) →
                                  (y1.1.length + [(mTrim (a0.extract y1.2.1.toNat (if (a0.size : Int) < y1.2.2.2 then (a0.size : Int) else y1.2.2.2).toNat))].length) * 16 ≤ 140737488355328 ∧
                                  (L0 ((y1.1 ++ [(mTrim (a0.extract y1.2.1.toNat (if (a0.size : Int) < y1.2.2.2 then (a0.size : Int) else y1.2.2.2).toNat))]), (IntKind.i64.wrap (y1.2.2.2 + 1)), y1.2.2.1, (IntKind.i64.wrap (y1.2.2.2 + 1))))) ∧
                                (¬ ((mTrim (a0.extract y1.2.1.toNat (if (a0.size : Int) < y1.2.2.2 then (a0.size : Int) else y1.2.2.2).toNat)) ≠ (lit [])) →
                                  (L0 (y1.1, (IntKind.i64.wrap (y1.2.2.2 + 1)), y1.2.2.1, (IntKind.i64.wrap (y1.2.2.2 + 1)))))) ∧
                              (¬ (¬ (y1.2.2.1 = true)) →
                                (L0 (y1.1, y1.2.1, y1.2.2.1, (IntKind.i64.wrap (y1.2.2.2 + 1)))))) ∧
                            (¬ ((bt a0 y1.2.2.2) = 44) →
                              (L0 (y1.1, y1.2.1, y1.2.2.1, (IntKind.i64.wrap (y1.2.2.2 + 1)))))))) ∧
                      (¬ (y1.2.2.1 = true) →
                        ((a0.size : Int) ≤ y1.2.2.2 →
                          0 ≤ y1.2.1 ∧
                          y1.2.1 ≤ (if (a0.size : Int) < y1.2.2.2 then (a0.size : Int) else y1.2.2.2) ∧
                          (if (a0.size : Int) < y1.2.2.2 then (a0.size : Int) else y1.2.2.2) ≤ (a0.size : Int) ∧
                          pTrim (a0.extract y1.2.1.toNat (if (a0.size : Int) < y1.2.2.2 then (a0.size : Int) else y1.2.2.2).toNat) ∧
                          ((mTrim (a0.extract y1.2.1.toNat (if (a0.size : Int) < y1.2.2.2 then (a0.size : Int) else y1.2.2.2).toNat)) ≠ (lit []) →
                            (y1.1.length + [(mTrim (a0.extract y1.2.1.toNat (if (a0.size : Int) < y1.2.2.2 then (a0.size : Int) else y1.2.2.2).toNat))].length) * 16 ≤ 140737488355328 ∧
                            (L0 ((y1.1 ++ [(mTrim (a0.extract y1.2.1.toNat (if (a0.size : Int) < y1.2.2.2 then (a0.size : Int) else y1.2.2.2).toNat))]), (IntKind.i64.wrap (y1.2.2.2 + 1)), y1.2.2.1, (IntKind.i64.wrap (y1.2.2.2 + 1))))) ∧
                          (¬ ((mTrim (a0.extract y1.2.1.toNat (if (a0.size : Int) < y1.2.2.2 then (a0.size : Int) else y1.2.2.2).toNat)) ≠ (lit [])) →
                            (L0 (y1.1, (IntKind.i64.wrap (y1.2.2.2 + 1)), y1.2.2.1, (IntKind.i64.wrap (y1.2.2.2 + 1)))))) ∧
                        (¬ ((a0.size : Int) ≤ y1.2.2.2) →
                          0 ≤ y1.2.2.2 ∧
                          y1.2.2.2 < (a0.size : Int) ∧
                          ((bt a0 y1.2.2.2) = 44 →
                            (¬ (y1.2.2.1 = true) →
                              0 ≤ y1.2.1 ∧
                              y1.2.1 ≤ (if (a0.size : Int) < y1.2.2.2 then (a0.size : Int) else y1.2.2.2) ∧
                              (if (a0.size : Int) < y1.2.2.2 then (a0.size : Int) else y1.2.2.2) ≤ (a0.size : Int) ∧
                              pTrim (a0.extract y1.2.1.toNat (if (a0.size : Int) < y1.2.2.2 then (a0.size : Int) else y1.2.2.2).toNat) ∧
                              ((mTrim (a0.extract y1.2.1.toNat (if (a0.size : Int) < y1.2.2.2 then (a0.size : Int) else y1.2.2.2).toNat)) ≠ (lit []) →
                                (y1.1.length + [(mTrim (a0.extract y1.2.1.toNat (if (a0.size : Int) < y1.2.2.2 then (a0.size : Int) else y1.2.2.2).toNat))].length) * 16 ≤ 140737488355328 ∧
                                (L0 ((y1.1 ++ [(mTrim (a0.extract y1.2.1.toNat (if (a0.size : Int) < y1.2.2.2 then (a0.size : Int) else y1.2.2.2).toNat))]), (IntKind.i64.wrap (y1.2.2.2 + 1)), y1.2.2.1, (IntKind.i64.wrap (y1.2.2.2 + 1))))) ∧
                              (¬ ((mTrim (a0.extract y1.2.1.toNat (if (a0.size : Int) < y1.2.2.2 then (a0.size : Int) else y1.2.2.2).toNat)) ≠ (lit [])) →
                                (L0 (y1.1, (IntKind.i64.wrap (y1.2.2.2 + 1)), y1.2.2.1, (IntKind.i64.wrap (y1.2.2.2 + 1)))))) ∧
                            (¬ (¬ (y1.2.2.1 = true)) →
                              (L0 (y1.1, y1.2.1, y1.2.2.1, (IntKind.i64.wrap (y1.2.2.2 + 1)))))) ∧
                          (¬ ((bt a0 y1.2.2.2) = 44) →
                            (L0 (y1.1, y1.2.1, y1.2.2.1, (IntKind.i64.wrap (y1.2.2.2 + 1)))))))) ∧
                    (¬ (y1.2.2.2 < (a0.size : Int)) →
                      ((a0.size : Int) ≤ y1.2.2.2 →
                        0 ≤ y1.2.1 ∧
                        y1.2.1 ≤ (if (a0.size : Int) < y1.2.2.2 then (a0.size : Int) else y1.2.2.2) ∧
                        (if (a0.size : Int) < y1.2.2.2 then (a0.size : Int) else y1.2.2.2) ≤ (a0.size : Int) ∧
                        pTrim (a0.extract y1.2.1.toNat (if (a0.size : Int) < y1.2.2.2 then (a0.size : Int) else y1.2.2.2).toNat) ∧
                        ((mTrim (a0.extract y1.2.1.toNat (if (a0.size : Int) < y1.2.2.2 then (a0.size : Int) else y1.2.2.2).toNat)) ≠ (lit []) →
                          (y1.1.length + [(mTrim (a0.extract y1.2.1.toNat (if (a0.size : Int) < y1.2.2.2 then (a0.size : Int) else y1.2.2.2).toNat))].length) * 16 ≤ 140737488355328 ∧
                          (L0 ((y1.1 ++ [(mTrim (a0.extract y1.2.1.toNat (if (a0.size : Int) < y1.2.2.2 then (a0.size : Int) else y1.2.2.2).toNat))]), (IntKind.i64.wrap (y1.2.2.2 + 1)), y1.2.2.1, (IntKind.i64.wrap (y1.2.2.2 + 1))))) ∧
                        (¬ ((mTrim (a0.extract y1.2.1.toNat (if (a0.size : Int) < y1.2.2.2 then (a0.size : Int) else y1.2.2.2).toNat)) ≠ (lit [])) →
                          (L0 (y1.1, (IntKind.i64.wrap (y1.2.2.2 + 1)), y1.2.2.1, (IntKind.i64.wrap (y1.2.2.2 + 1)))))) ∧
                      (¬ ((a0.size : Int) ≤ y1.2.2.2) →
                        0 ≤ y1.2.2.2 ∧
                        y1.2.2.2 < (a0.size : Int) ∧
                        ((bt a0 y1.2.2.2) = 44 →
                          (¬ (y1.2.2.1 = true) →
                            0 ≤ y1.2.1 ∧
                            y1.2.1 ≤ (if (a0.size : Int) < y1.2.2.2 then (a0.size : Int) else y1.2.2.2) ∧
                            (if (a0.size : Int) < y1.2.2.2 then (a0.size : Int) else y1.2.2.2) ≤ (a0.size : Int) ∧
                            pTrim (a0.extract y1.2.1.toNat (if (a0.size : Int) < y1.2.2.2 then (a0.size : Int) else y1.2.2.2).toNat) ∧
                            ((mTrim (a0.extract y1.2.1.toNat (if (a0.size : Int) < y1.2.2.2 then (a0.size : Int) else y1.2.2.2).toNat)) ≠ (lit []) →
                              (y1.1.length + [(mTrim (a0.extract y1.2.1.toNat (if (a0.size : Int) < y1.2.2.2 then (a0.size : Int) else y1.2.2.2).toNat))].length) * 16 ≤ 140737488355328 ∧
                              (L0 ((y1.1 ++ [(mTrim (a0.extract y1.2.1.toNat (if (a0.size : Int) < y1.2.2.2 then (a0.size : Int) else y1.2.2.2).toNat))]), (IntKind.i64.wrap (y1.2.2.2 + 1)), y1.2.2.1, (IntKind.i64.wrap (y1.2.2.2 + 1))))) ∧
                            (¬ ((mTrim (a0.extract y1.2.1.toNat (if (a0.size : Int) < y1.2.2.2 then (a0.size : Int) else y1.2.2.2).toNat)) ≠ (lit [])) →
                              (L0 (y1.1, (IntKind.i64.wrap (y1.2.2.2 + 1)), y1.2.2.1, (IntKind.i64.wrap (y1.2.2.2 + 1)))))) ∧
                          (¬ (¬ (y1.2.2.1 = true)) →
                            (L0 (y1.1, y1.2.1, y1.2.2.1, (IntKind.i64.wrap (y1.2.2.2 + 1)))))) ∧
                        (¬ ((bt a0 y1.2.2.2) = 44) →
                          (L0 (y1.1, y1.2.1, y1.2.2.1, (IntKind.i64.wrap (y1.2.2.2 + 1))))))))) ∧
                (¬ (y1.2.2.2 < (a0.size : Int)) →
                  (y1.2.2.2 < (a0.size : Int) →
                    (y1.2.2.1 = true →
                      0 ≤ y1.2.2.2 ∧
                      y1.2.2.2 < (a0.size : Int) ∧
                      ((bt a0 y1.2.2.2) = 92 →
                        (L0 (y1.1, y1.2.1, y1.2.2.1, (IntKind.i64.wrap ((IntKind.i64.wrap (y1.2.2.2 + 1)) + 1))))) ∧
                      (¬ ((bt a0 y1.2.2.2) = 92) →
                        ((a0.size : Int) ≤ y1.2.2.2 →
                          0 ≤ y1.2.1 ∧
                          y1.2.1 ≤ (if (a0.size : Int) < y1.2.2.2 then (a0.size : Int) else y1.2.2.2) ∧
                          (if (a0.size : Int) < y1.2.2.2 then (a0.size : Int) else y1.2.2.2) ≤ (a0.size : Int) ∧
                          pTrim (a0.extract y1.2.1.toNat (if (a0.size : Int) < y1.2.2.2 then (a0.size : Int) else y1.2.2.2).toNat) ∧
                          ((mTrim (a0.extract y1.2.1.toNat (if (a0.size : Int) < y1.2.2.2 then (a0.size : Int) else y1.2.2.2).toNat)) ≠ (lit []) →
                            (y1.1.length + [(mTrim (a0.extract y1.2.1.toNat (if (a0.size : Int) < y1.2.2.2 then (a0.size : Int) else y1.2.2.2).toNat))].length) * 16 ≤ 140737488355328 ∧
                            (L0 ((y1.1 ++ [(mTrim (a0.extract y1.2.1.toNat (if (a0.size : Int) < y1.2.2.2 then (a0.size : Int) else y1.2.2.2).toNat))]), (IntKind.i64.wrap (y1.2.2.2 + 1)), y1.2.2.1, (IntKind.i64.wrap (y1.2.2.2 + 1))))) ∧
                          (¬ ((mTrim (a0.extract y1.2.1.toNat (if (a0.size : Int) < y1.2.2.2 then (a0.size : Int) else y1.2.2.2).toNat)) ≠ (lit [])) →
                            (L0 (y1.1, (IntKind.i64.wrap (y1.2.2.2 + 1)), y1.2.2.1, (IntKind.i64.wrap (y1.2.2.2 + 1)))))) ∧
                        (¬ ((a0.size : Int) ≤ y1.2.2.2) →
                          0 ≤ y1.2.2.2 ∧
                          y1.2.2.2 < (a0.size : Int) ∧
                          ((bt a0 y1.2.2.2) = 44 →
                            (¬ (y1.2.2.1 = true) →
                              0 ≤ y1.2.1 ∧
                              y1.2.1 ≤ (if (a0.size : Int) < y1.2.2.2 then (a0.size : Int) else y1.2.2.2) ∧
                              (if (a0.size : Int) < y1.2.2.2 then (a0.size : Int) else y1.2.2.2) ≤ (a0.size : Int) ∧
                              pTrim (a0.extract y1.2.1.toNat (if (a0.size : Int) < y1.2.2.2 then (a0.size : Int) else y1.2.2.2).toNat) ∧
                              ((mTrim (a0.extract y1.2.1.toNat (if (a0.size : Int) < y1.2.2.2 then (a0.size : Int) else y1.2.2.2).toNat)) ≠ (lit []) →
                                (y1.1.length + [(mTrim (a0.extract y1.2.1.toNat (if (a0.size : Int) < y1.2.2.2 then (a0.size : Int) else y1.2.2.2).toNat))].length) * 16 ≤ 140737488355328 ∧
                                (L0 ((y1.1 ++ [(mTrim (a0.extract y1.2.1.toNat (if (a0.size : Int) < y1.2.2.2 then (a0.size : Int) else y1.2.2.2).toNat))]), (IntKind.i64.wrap (y1.2.2.2 + 1)), y1.2.2.1, (IntKind.i64.wrap (y1.2.2.2 + 1))))) ∧
                              (¬ ((mTrim (a0.extract y1.2.1.toNat (if (a0.size : Int) < y1.2.2.2 then (a0.size : Int) else y1.2.2.2).toNat)) ≠ (lit [])) →
                                (L0 (y1.1, (IntKind.i64.wrap (y1.2.2.2 + 1)), y1.2.2.1, (IntKind.i64.wrap (y1.2.2.2 + 1)))))) ∧
                            (¬ (¬ (y1.2.2.1 = true)) →
                              (L0 (y1.1, y1.2.1, y1.2.2.1, (IntKind.i64.wrap (y1.2.2.2 + 1)))))) ∧
                          (¬ ((bt a0 y1.2.2.2) = 44) →
                            (L0 (y1.1, y1.2.1, y1.2.2.1, (IntKind.i64.wrap (y1.2.2.2 + 1)))))))) ∧
                    (¬ (y1.2.2.1 = true) →
                      ((a0.size : Int) ≤ y1.2.2.2 →
                        0 ≤ y1.2.1 ∧
                        y1.2.1 ≤ (if (a0.size : Int) < y1.2.2.2 then (a0.size : Int) else y1.2.2.2) ∧
                        (if (a0.size : Int) < y1.2.2.2 then (a0.size : Int) else y1.2.2.2) ≤ (a0.size : Int) ∧
                        pTrim (a0.extract y1.2.1.toNat (if (a0.size : Int) < y1.2.2.2 then (a0.size : Int) else y1.2.2.2).toNat) ∧
                        ((mTrim (a0.extract y1.2.1.toNat (if (a0.size : Int) < y1.2.2.2 then (a0.size : Int) else y1.2.2.2).toNat)) ≠ (lit []) →
                          (y1.1.length + [(mTrim (a0.extract y1.2.1.toNat (if (a0.size : Int) < y1.2.2.2 then (a0.size : Int) else y1.2.2.2).toNat))].length) * 16 ≤ 140737488355328 ∧
                          (L0 ((y1.1 ++ [(mTrim (a0.extract y1.2.1.toNat (if (a0.size : Int) < y1.2.2.2 then (a0.size : Int) else y1.2.2.2).toNat))]), (IntKind.i64.wrap (y1.2.2.2 + 1)), y1.2.2.1, (IntKind.i64.wrap (y1.2.2.2 + 1))))) ∧
                        (¬ ((mTrim (a0.extract y1.2.1.toNat (if (a0.size : Int) < y1.2.2.2 then (a0.size : Int) else y1.2.2.2).toNat)) ≠ (lit [])) →
                          (L0 (y1.1, (IntKind.i64.wrap (y1.2.2.2 + 1)), y1.2.2.1, (IntKind.i64.wrap (y1.2.2.2 + 1)))))) ∧
                      (¬ ((a0.size : Int) ≤ y1.2.2.2) →
                        0 ≤ y1.2.2.2 ∧
                        y1.2.2.2 < (a0.size : Int) ∧
                        ((bt a0 y1.2.2.2) = 44 →
                          (¬ (y1.2.2.1 = true) →
                            0 ≤ y1.2.1 ∧
                            y1.2.1 ≤ (if (a0.size : Int) < y1.2.2.2 then (a0.size : Int) else y1.2.2.2) ∧
                            (if (a0.size : Int) < y1.2.2.2 then (a0.size : Int) else y1.2.2.2) ≤ (a0.size : Int) ∧
                            pTrim (a0.extract y1.2.1.toNat (if (a0.size : Int) < y1.2.2.2 then (a0.size : Int) else y1.2.2.2).toNat) ∧
                            ((mTrim (a0.extract y1.2.1.toNat (if (a0.size : Int) < y1.2.2.2 then (a0.size : Int) else y1.2.2.2).toNat)) ≠ (lit []) →
                              (y1.1.length + [(mTrim (a0.extract y1.2.1.toNat (if (a0.size : Int) < y1.2.2.2 then (a0.size : Int) else y1.2.2.2).toNat))].length) * 16 ≤ 140737488355328 ∧
                              (L0 ((y1.1 ++ [(mTrim (a0.extract y1.2.1.toNat (if (a0.size : Int) < y1.2.2.2 then (a0.size : Int) else y1.2.2.2).toNat))]), (IntKind.i64.wrap (y1.2.2.2 + 1)), y1.2.2.1, (IntKind.i64.wrap (y1.2.2.2 + 1))))) ∧
                            (¬ ((mTrim (a0.extract y1.2.1.toNat (if (a0.size : Int) < y1.2.2.2 then (a0.size : Int) else y1.2.2.2).toNat)) ≠ (lit [])) →
                              (L0 (y1.1, (IntKind.i64.wrap (y1.2.2.2 + 1)), y1.2.2.1, (IntKind.i64.wrap (y1.2.2.2 + 1)))))) ∧
                          (¬ (¬ (y1.2.2.1 = true)) →
                            (L0 (y1.1, y1.2.1, y1.2.2.1, (IntKind.i64.wrap (y1.2.2.2 + 1)))))) ∧
                        (¬ ((bt a0 y1.2.2.2) = 44) →
                          (L0 (y1.1, y1.2.1, y1.2.2.1, (IntKind.i64.wrap (y1.2.2.2 + 1)))))))) ∧
                  (¬ (y1.2.2.2 < (a0.size : Int)) →
                    ((a0.size : Int) ≤ y1.2.2.2 →
                      0 ≤ y1.2.1 ∧
                      y1.2.1 ≤ (if (a0.size : Int) < y1.2.2.2 then (a0.size : Int) else y1.2.2.2) ∧
                      (if (a0.size : Int) < y1.2.2.2 then (a0.size : Int) else y1.2.2.2) ≤ (a0.size : Int) ∧
                      pTrim (a0.extract y1.2.1.toNat (if (a0.size : Int) < y1.2.2.2 then (a0.size : Int) else y1.2.2.2).toNat) ∧
                      ((mTrim (a0.extract y1.2.1.toNat (if (a0.size : Int) < y1.2.2.2 then (a0.size : Int) else y1.2.2.2).toNat)) ≠ (lit []) →
                        (y1.1.length + [(mTrim (a0.extract y1.2.1.toNat (if (a0.size : Int) < y1.2.2.2 then (a0.size : Int) else y1.2.2.2).toNat))].length) * 16 ≤ 140737488355328 ∧
                        (L0 ((y1.1 ++ [(mTrim (a0.extract y1.2.1.toNat (if (a0.size : Int) < y1.2.2.2 then (a0.size : Int) else y1.2.2.2).toNat))]), (IntKind.i64.wrap (y1.2.2.2 + 1)), y1.2.2.1, (IntKind.i64.wrap (y1.2.2.2 + 1))))) ∧
                      (¬ ((mTrim (a0.extract y1.2.1.toNat (if (a0.size : Int) < y1.2.2.2 then (a0.size : Int) else y1.2.2.2).toNat)) ≠ (lit [])) →
                        (L0 (y1.1, (IntKind.i64.wrap (y1.2.2.2 + 1)), y1.2.2.1, (IntKind.i64.wrap (y1.2.2.2 + 1)))))) ∧
                    (¬ ((a0.size : Int) ≤ y1.2.2.2) →
                      0 ≤ y1.2.2.2 ∧
                      y1.2.2.2 < (a0.size : Int) ∧
                      ((bt a0 y1.2.2.2) = 44 →
                        (¬ (y1.2.2.1 = true) →
                          0 ≤ y1.2.1 ∧
                          y1.2.1 ≤ (if (a0.size : Int) < y1.2.2.2 then (a0.size : Int) else y1.2.2.2) ∧
                          (if (a0.size : Int) < y1.2.2.2 then (a0.size : Int) else y1.2.2.2) ≤ (a0.size : Int) ∧
                          pTrim (a0.extract y1.2.1.toNat (if (a0.size : Int) < y1.2.2.2 then (a0.size : Int) else y1.2.2.2).toNat) ∧
                          ((mTrim (a0.extract y1.2.1.toNat (if (a0.size : Int) < y1.2.2.2 then (a0.size : Int) else y1.2.2.2).toNat)) ≠ (lit []) →
                            (y1.1.length + [(mTrim (a0.extract y1.2.1.toNat (if (a0.size : Int) < y1.2.2.2 then (a0.size : Int) else y1.2.2.2).toNat))].length) * 16 ≤ 140737488355328 ∧
                            (L0 ((y1.1 ++ [(mTrim (a0.extract y1.2.1.toNat (if (a0.size : Int) < y1.2.2.2 then (a0.size : Int) else y1.2.2.2).toNat))]), (IntKind.i64.wrap (y1.2.2.2 + 1)), y1.2.2.1, (IntKind.i64.wrap (y1.2.2.2 + 1))))) ∧
                          (¬ ((mTrim (a0.extract y1.2.1.toNat (if (a0.size : Int) < y1.2.2.2 then (a0.size : Int) else y1.2.2.2).toNat)) ≠ (lit [])) →
                            (L0 (y1.1, (IntKind.i64.wrap (y1.2.2.2 + 1)), y1.2.2.1, (IntKind.i64.wrap (y1.2.2.2 + 1)))))) ∧
                        (¬ (¬ (y1.2.2.1 = true)) →
                          (L0 (y1.1, y1.2.1, y1.2.2.1, (IntKind.i64.wrap (y1.2.2.2 + 1)))))) ∧
                      (¬ ((bt a0 y1.2.2.2) = 44) →
                        (L0 (y1.1, y1.2.1, y1.2.2.1, (IntKind.i64.wrap (y1.2.2.2 + 1))))))))) ∧
              (¬ (y1.2.2.2 ≤ (a0.size : Int)) →
                (y1.2.1 < (a0.size : Int) →
                  (y1.2.2.1 = true →
                    0 ≤ y1.2.1 ∧
                    y1.2.1 ≤ (a0.size : Int) ∧
                    pTrim (a0.extract y1.2.1.toNat a0.size) ∧
                    ((mTrim (a0.extract y1.2.1.toNat a0.size)) ≠ (lit []) →
                      (y1.1.length + [(mTrim (a0.extract y1.2.1.toNat a0.size))].length) * 16 ≤ 140737488355328 ∧
                      (Q (y1.1 ++ [(mTrim (a0.extract y1.2.1.toNat a0.size))]))) ∧
                    (¬ ((mTrim (a0.extract y1.2.1.toNat a0.size)) ≠ (lit [])) →
                      (Q y1.1))) ∧
                  (¬ (y1.2.2.1 = true) →
                    (Q y1.1))) ∧
                (¬ (y1.2.1 < (a0.size : Int)) →
                  (Q y1.1)))
            ) →
            (L0 y1)))
      ) →
      (L0 ([], 0, false, 0))))

def s_spec_Trim (a0 : S) (Q : (S → Prop)) : Prop :=
  (∀ L0 : (S → Prop),
    ((
        (∀ y1 : S,
          ((
              (0 < (y1.size : Int) →
                (0 : Int) ≤ 0 ∧
                0 < (y1.size : Int) ∧
                pBlank (bt y1 0) ∧
                ((mBlank (bt y1 0)) = true →
                  (0 : Int) ≤ 1 ∧
                  1 ≤ (y1.size : Int) ∧
                  (L0 (y1.extract ((1 : Int).toNat) y1.size))) ∧
                (¬ ((mBlank (bt y1 0)) = true) →
                  (∀ L2 : (S → Prop),
                    ((
                        (∀ y3 : S,
                          ((
                              (0 < (y3.size : Int) →
                                0 ≤ (IntKind.i64.wrap ((y3.size : Int) - 1)) ∧
                                (IntKind.i64.wrap ((y3.size : Int) - 1)) < (y3.size : Int) ∧
                                pBlank (bt y3 (IntKind.i64.wrap ((y3.size : Int) - 1))) ∧
                                ((mBlank (bt y3 (IntKind.i64.wrap ((y3.size : Int) - 1)))) = true →
                                  0 ≤ (IntKind.i64.wrap ((y3.size : Int) - 1)) ∧
                                  (IntKind.i64.wrap ((y3.size : Int) - 1)) ≤ (y3.size : Int) ∧
                                  (L2 (y3.extract 0 (IntKind.i64.wrap ((y3.size : Int) - 1)).toNat))) ∧
                                (¬ ((mBlank (bt y3 (IntKind.i64.wrap ((y3.size : Int) - 1)))) = true) →
                                  (Q y3))) ∧
                              (¬ (0 < (y3.size : Int)) →
                                (Q y3))
                            ) →
                            (L2 y3)))
                      ) →
                      (L2 y1))))) ∧
              (¬ (0 < (y1.size : Int)) →
                (∀ L4 : (S → Prop),
                  ((
                      (∀ y5 : S,
                        ((
                            (0 < (y5.size : Int) →
                              0 ≤ (IntKind.i64.wrap ((y5.size : Int) - 1)) ∧
                              (IntKind.i64.wrap ((y5.size : Int) - 1)) < (y5.size : Int) ∧
                              pBlank (bt y5 (IntKind.i64.wrap ((y5.size : Int) - 1))) ∧
                              ((mBlank (bt y5 (IntKind.i64.wrap ((y5.size : Int) - 1)))) = true →
                                0 ≤ (IntKind.i64.wrap ((y5.size : Int) - 1)) ∧
                                (IntKind.i64.wrap ((y5.size : Int) - 1)) ≤ (y5.size : Int) ∧
                                (L4 (y5.extract 0 (IntKind.i64.wrap ((y5.size : Int) - 1)).toNat))) ∧
                              (¬ ((mBlank (bt y5 (IntKind.i64.wrap ((y5.size : Int) - 1)))) = true) →
                                (Q y5))) ∧
                            (¬ (0 < (y5.size : Int)) →
                              (Q y5))
                          ) →
                          (L4 y5)))
                    ) →
                    (L4 y1))))
            ) →
            (L0 y1)))
      ) →
      (L0 a0)))

def s_spec_l1In (a0 : Int) (a1 : Int) (a2 : Int) (Q : (Bool → Prop)) : Prop :=
  (a1 ≤ a0 →
    (Q (decide (a0 ≤ a2)))) ∧
  (¬ (a1 ≤ a0) →
    (Q false))

def s_spec_l2Blank (a0 : Int) (Q : (Bool → Prop)) : Prop :=
  (a0 = 32 →
    (Q true)) ∧
  (¬ (a0 = 32) →
    (Q (decide (a0 = 9))))

end Go.Ev
end

section
/- Laws of the plain library: what the functions come to is what they compute. First part: small ones. -/
set_option linter.unusedVariables false
namespace Go.Ev

theorem spec_l1In_ok (a0 a1 a2 : Int) : s_spec_l1In a0 a1 a2 (fun r => r = mIn a0 a1 a2) := by
  unfold s_spec_l1In mIn; grind
theorem impl_in_ok (a0 a1 a2 : Int) : s_impl_in a0 a1 a2 (fun r => r = mIn a0 a1 a2) := by
  unfold s_impl_in mIn; grind
theorem spec_l2Blank_ok (a0 : Int) : s_spec_l2Blank a0 (fun r => r = mBlank a0) := by
  unfold s_spec_l2Blank mBlank; grind
theorem impl_Trim_ok (a0 : S) (h : pTrim a0) : s_impl_Trim a0 (fun r => r = mTrim a0) := ⟨⟨h, rfl⟩, rfl⟩
end Go.Ev
end

section
/- Laws of the plain library: numerals. -/
set_option linter.unusedVariables false
namespace Go.Ev
def decLeft (n : Int) : List UInt8 := if n = 0 then [] else Lib.decDigits n.natAbs
theorem td10 (n : Int) : (0 ≤ n ∧ n.tdiv 10 = n / 10 ∧ n.tmod 10 = n % 10) ∨ (n < 0 ∧ n.tdiv 10 = -((-n) / 10) ∧ n.tmod 10 = -((-n) % 10)) := by
  rcases Int.le_total 0 n with h | h
  · exact Or.inl ⟨h, Int.tdiv_eq_ediv_of_nonneg h, Int.tmod_eq_emod_of_nonneg h⟩
  · by_cases h0 : n = 0
    · subst h0; exact Or.inl ⟨by omega, rfl, rfl⟩
    · refine Or.inr ⟨by omega, ?_, ?_⟩
      · rw [← Int.tdiv_eq_ediv_of_nonneg (by omega), Int.neg_tdiv, Int.neg_neg]
      · rw [← Int.tmod_eq_emod_of_nonneg (by omega), Int.neg_tmod, Int.neg_neg]
theorem decLeft_step {n : Int} (h : n ≠ 0) : decLeft n = decLeft (n.tdiv 10) ++ [UInt8.ofNat (48 + n.natAbs % 10)] := by
  have e : (n.tdiv 10).natAbs = n.natAbs / 10 := by rw [Int.natAbs_tdiv]; rfl
  have ht := td10 n
  unfold decLeft
  rw [if_neg h]
  by_cases h1 : n.natAbs < 10
  · have : n.tdiv 10 = 0 := by omega
    rw [if_pos this, Lib.decDigits_one h1, Nat.mod_eq_of_lt h1]; rfl
  · have : n.tdiv 10 ≠ 0 := by omega
    rw [if_neg this, e, Lib.decDigits, dif_neg h1]
theorem digit_neg {n : Int} (h0 : in64 n) (h : n.tmod 10 < 0) : strOf [IntKind.u8.wrap (IntKind.i64.wrap (48 + IntKind.i64.wrap (0 - n.tmod 10)))] = ob [UInt8.ofNat (48 + n.natAbs % 10)] := by
  obtain ⟨ha, hb⟩ := h0
  have ht := td10 n
  have e1 : IntKind.i64.wrap (0 - n.tmod 10) = ((n.natAbs % 10 : Nat) : Int) := by rw [wrap64 (by omega) (by omega)]; omega
  have e2 : IntKind.i64.wrap (48 + ((n.natAbs % 10 : Nat) : Int)) = ((48 + n.natAbs % 10 : Nat) : Int) := by rw [wrap64 (by omega) (by omega)]; omega
  have hlt : n.natAbs % 10 < 10 := Nat.mod_lt _ (by decide)
  rw [e1, e2]
  generalize n.natAbs % 10 = k at hlt
  have : ∀ k : Fin 10, strOf [IntKind.u8.wrap ((48 + k.val : Nat) : Int)] = ob [UInt8.ofNat (48 + k.val)] := by decide +kernel
  exact this ⟨k, hlt⟩
theorem digit_pos {n : Int} (h0 : in64 n) (h : ¬ n.tmod 10 < 0) : strOf [IntKind.u8.wrap (IntKind.i64.wrap (48 + n.tmod 10))] = ob [UInt8.ofNat (48 + n.natAbs % 10)] := by
  obtain ⟨ha, hb⟩ := h0
  have ht := td10 n
  have e2 : IntKind.i64.wrap (48 + n.tmod 10) = ((48 + n.natAbs % 10 : Nat) : Int) := by rw [wrap64 (by omega) (by omega)]; omega
  have hlt : n.natAbs % 10 < 10 := Nat.mod_lt _ (by decide)
  rw [e2]
  generalize n.natAbs % 10 = k at hlt
  have : ∀ k : Fin 10, strOf [IntKind.u8.wrap ((48 + k.val : Nat) : Int)] = ob [UInt8.ofNat (48 + k.val)] := by decide +kernel
  exact this ⟨k, hlt⟩
theorem spec_Dec_ok (a0 : Int) (h : pDec a0) : s_spec_Dec a0 (fun r => r = mDec a0) := by
  obtain ⟨ha, hb⟩ := h
  have hlen := Lib.itoa_length_le a0 ha hb
  refine ⟨fun h0 => by subst h0; exact bs_inj (by decide +kernel), fun h0 => fun L hL => ?_⟩
  refine loopI hL (fun y => in64 y.1 ∧ (0 ≤ a0 → 0 ≤ y.1) ∧ (a0 < 0 → y.1 ≤ 0) ∧ decLeft y.1 ++ bs y.2 = Lib.decDigits a0.natAbs) (fun y => y.1.natAbs) (fun y hI ih => ?_) (a0, lit []) ⟨⟨ha, hb⟩, fun h => h, fun h => by omega, by unfold decLeft; rw [if_neg h0, bs_lit]; simp⟩
  obtain ⟨n, s⟩ := y
  obtain ⟨h64, hp, hn, he⟩ := hI
  simp only at h64 hp hn he ⊢
  have hl : (Lib.decDigits a0.natAbs).length ≤ 21 := by
    unfold Lib.itoa at hlen
    split at hlen
    · simp only [List.length_cons] at hlen; omega
    · rw [show a0.toNat = a0.natAbs by omega] at hlen; exact hlen
  have hs : s.size ≤ 21 := by rw [← bs_len]; rw [← he, List.length_append] at hl; omega
  have ht := td10 n
  have d64 : in64 (n.tdiv 10) := by obtain ⟨a, b⟩ := h64; constructor <;> omega
  have wd : IntKind.i64.wrap (n.tdiv 10) = n.tdiv 10 := wrap64 (by have := d64.1; omega) (by have := d64.2; omega)
  have next : n ≠ 0 → L (n.tdiv 10, ob [UInt8.ofNat (48 + n.natAbs % 10)] ++ s) := fun hne => by
    refine ih _ ⟨d64, fun h => ?_, fun h => ?_, ?_⟩ ?_
    · have := hp h; simp only; omega
    · have := hn h; simp only; omega
    · simp only
      rw [bs_append, bs_ob, ← List.append_assoc, ← decLeft_step hne, he]
    · simp only; omega
  have h1 : (ob [UInt8.ofNat (48 + n.natAbs % 10)]).size = 1 := ob_size _
  have h2 : (lit [45]).size = 1 := rfl
  rw [wd]
  refine ⟨fun hne => ⟨by decide, fun hneg => ?_, fun hneg => ?_⟩, fun heq => ?_⟩
  · rw [digit_neg h64 hneg, h1]; exact ⟨by omega, by decide, next hne⟩
  · rw [digit_pos h64 hneg, h1]; exact ⟨by omega, by decide, next hne⟩
  · have h00 : n = 0 := Classical.byContradiction heq
    subst h00
    have he : bs s = Lib.decDigits a0.natAbs := by simpa [decLeft] using he
    refine ⟨fun hneg => ⟨by rw [h2]; omega, bs_inj ?_⟩, fun hneg => bs_inj ?_⟩
    · rw [bs_append, he, mDec, mItoa, bs_ob, Lib.itoa, if_pos hneg]; rfl
    · rw [he, mDec, mItoa, bs_ob, Lib.itoa, if_neg hneg, show a0.toNat = a0.natAbs by omega]
end Go.Ev
end

section
/- Laws of the plain library: days, texts of dates. -/
set_option linter.unusedVariables false
namespace Go.Ev
theorem leap_iff (y : Int) (h : 0 ≤ y) : mIsLeap y = true ↔ y.tmod 4 = 0 ∧ (y.tmod 100 ≠ 0 ∨ y.tmod 400 = 0) := by
  rw [tmodI h, tmodI h, tmodI h]
  unfold mIsLeap
  simp
theorem leap_no {y : Int} (h : ¬ (mIsLeap y = true)) : false = mIsLeap y := by cases hh : mIsLeap y <;> simp_all
theorem spec_IsLeap_ok (a0 : Int) (h : pIsLeap a0) : s_spec_IsLeap a0 (fun r => r = mIsLeap a0) := by
  have hi := leap_iff a0 h
  refine ⟨by decide, fun h4 => ⟨by decide, fun h1 => (hi.2 ⟨h4, .inl h1⟩).symm, fun h1 => ⟨by decide, ?_⟩⟩, fun h4 => leap_no fun hh => h4 (hi.1 hh).1⟩
  by_cases hq : a0.tmod 400 = 0
  · simp only [hq, decide_true]; exact (hi.2 ⟨h4, .inr hq⟩).symm
  · simp only [hq, decide_false]; exact leap_no fun hh => (hi.1 hh).2.elim h1 hq
theorem impl_IsLeap_ok (a0 : Int) (h : pIsLeap a0) : s_impl_IsLeap a0 (fun r => r = mIsLeap a0) := by
  have hi := leap_iff a0 h
  have h44 : a0.tmod 400 = 0 → a0.tmod 4 = 0 := by
    have hp : 0 ≤ a0 := h
    rw [tmodI hp, tmodI hp]; omega
  have key : (a0.tmod 4 = 0 → ¬ a0.tmod 100 ≠ 0 ∨ True) → (decide (a0.tmod 400 = 0) = true ↔ a0.tmod 400 = 0) := fun _ => decide_eq_true_iff
  refine ⟨by decide, fun h4 => ⟨by decide, fun h1 => (hi.2 ⟨h4, .inl h1⟩).symm, fun h1 => ⟨by decide, ?_⟩⟩, fun h4 => ⟨by decide, ?_⟩⟩
  · by_cases hq : a0.tmod 400 = 0
    · simp only [hq, decide_true]; exact (hi.2 ⟨h4, .inr hq⟩).symm
    · simp only [hq, decide_false]; exact leap_no fun hh => (hi.1 hh).2.elim h1 hq
  · have hq : ¬ a0.tmod 400 = 0 := fun hq => h4 (h44 hq)
    simp only [hq, decide_false]; exact leap_no fun hh => h4 (hi.1 hh).1
theorem spec_l4Months_ok (a0 : Int) (h : pL4Months a0) : s_spec_l4Months a0 (fun r => r = mL4Months a0) :=
  ⟨h, fun hl => by unfold mL4Months; rw [if_pos hl], fun hl => by unfold mL4Months; rw [if_neg hl]⟩
theorem impl_yearDays_ok (a0 : Int) (h : pYearDays a0) : s_impl_yearDays a0 (fun r => r = mYearDays a0) :=
  ⟨h, fun hl => by unfold mYearDays; rw [if_pos hl], fun hl => by unfold mYearDays; rw [if_neg hl]⟩
theorem monthDays_other : ∀ (b : Bool) (m : Fin 12), (m.val ≠ 1 → rx (monthsB b) ((m.val : Nat) : Int) = rx ([31, 28, 31, 30, 31, 30, 31, 31, 30, 31, 30, 31] : List Int) ((m.val : Nat) : Int)) ∧ rx (monthsB true) 1 = 29 ∧ rx (monthsB false) ((m.val : Nat) : Int) = rx ([31, 28, 31, 30, 31, 30, 31, 31, 30, 31, 30, 31] : List Int) ((m.val : Nat) : Int) := by decide +kernel
theorem impl_monthDays_ok (a0 a1 : Int) (h : pMonthDays a0 a1) : s_impl_monthDays a0 a1 (fun r => r = mMonthDays a0 a1) := by
  obtain ⟨h0, h1, h2⟩ := h
  have w : IntKind.i64.wrap (a1 - 1) = a1 - 1 := wrap64 (by omega) (by omega)
  obtain ⟨t1, t2, t3⟩ := monthDays_other (mIsLeap a0) ⟨(a1 - 1).toNat, by omega⟩
  simp only at t1 t3
  rw [show (((a1 - 1).toNat : Nat) : Int) = a1 - 1 by omega] at t1 t3
  have e : mMonthDays a0 a1 = rx (monthsB (mIsLeap a0)) (a1 - 1) := rfl
  unfold s_impl_monthDays
  rw [w, e]
  refine ⟨fun h2' => ⟨h0, fun hl => ?_, fun hl => ⟨by omega, by simp; omega, ?_⟩⟩, fun h2' => ⟨by omega, by simp; omega, ?_⟩⟩
  · rw [hl, h2']; exact t2.symm
  · rw [show mIsLeap a0 = false by cases hh : mIsLeap a0 <;> simp_all]; exact t3.symm
  · exact (t1 (by omega)).symm
theorem in_iff {n lo hi : Int} : mIn n lo hi = true ↔ lo ≤ n ∧ n ≤ hi := by unfold mIn; simp
theorem daysOf_no {y m d : Int} (h : ¬ (mIn y 1970 2037 = true ∧ mIn m 1 12 = true ∧ mIn d 1 (mMonthDays y m) = true)) : -1 = mDaysOf y m d := by
  unfold mDaysOf
  rw [if_neg]
  simp only [Bool.and_eq_true]
  exact fun hh => h ⟨hh.1.1, hh.1.2, hh.2⟩
theorem daysOf_yes {y m d : Int} (h1 : mIn y 1970 2037 = true) (h2 : mIn m 1 12 = true) (h3 : mIn d 1 (mMonthDays y m) = true) : d - 1 + daysY (y - 1970).toNat + daysM y (m - 1).toNat = mDaysOf y m d := by
  unfold mDaysOf
  rw [if_pos (by simp only [Bool.and_eq_true]; exact ⟨⟨h1, h2⟩, h3⟩)]
theorem impl_DaysOf_ok (a0 a1 a2 : Int) (h0 : pDaysOf a0 a1 a2) : s_impl_DaysOf a0 a1 a2 (fun r => r = mDaysOf a0 a1 a2) := by
  refine ⟨trivial, fun hn => daysOf_no fun hh => hn hh.1, fun hy => ⟨trivial, fun hn => daysOf_no fun hh => hn hh.2.1, fun hm => ?_⟩⟩
  have hy := Classical.not_not.1 hy
  have hm := Classical.not_not.1 hm
  have iy := in_iff.1 hy
  have im := in_iff.1 hm
  refine ⟨⟨by omega, im.1, im.2⟩, trivial, fun hn => daysOf_no fun hh => hn hh.2.2, fun hd => ?_⟩
  have hd := Classical.not_not.1 hd
  have id := in_iff.1 hd
  have hr := monthDays_range a0 im.1 im.2
  rw [← daysOf_yes hy hm hd]
  have w0 : IntKind.i64.wrap (a2 - 1) = a2 - 1 := wrap64 (by omega) (by omega)
  rw [w0]
  intro L hL
  refine loopI hL (fun z => ∃ i : Nat, (i : Int) ≤ a0 - 1970 ∧ z.2 = 1970 + (i : Int) ∧ z.1 = a2 - 1 + daysY i) (fun z => (a0 - z.2).toNat) (fun z hI ih => ?_) (a2 - 1, 1970) ⟨0, by omega, by simp, by simp [daysY]⟩
  obtain ⟨n, y⟩ := z
  obtain ⟨i, hi, hz2, hz1⟩ := hI
  simp only at hz1 hz2 ⊢
  subst hz1 hz2
  have ry := daysY_range i
  have ryd := yearDays_range (1970 + (i : Int))
  refine ⟨fun hlt => ⟨show 0 ≤ 1970 + (i : Int) by omega, ?_⟩, fun hge => ?_⟩
  · have w1 : IntKind.i64.wrap (a2 - 1 + daysY i + mYearDays (1970 + (i : Int))) = a2 - 1 + daysY (i + 1) := by rw [wrap64 (by omega) (by omega)]; simp only [daysY]; omega
    have w2 : IntKind.i64.wrap (1970 + (i : Int) + 1) = 1970 + ((i + 1 : Nat) : Int) := by rw [wrap64 (by omega) (by omega)]; omega
    rw [w1, w2]
    exact ih _ ⟨i + 1, by omega, rfl, rfl⟩ (by simp only; omega)
  · have hie : (a0 - 1970).toNat = i := by omega
    rw [hie]
    intro L2 hL2
    refine loopI hL2 (fun z => ∃ k : Nat, (k : Int) ≤ a1 - 1 ∧ z.2 = 1 + (k : Int) ∧ z.1 = a2 - 1 + daysY i + daysM a0 k) (fun z => (a1 - z.2).toNat) (fun z hK ik => ?_) (a2 - 1 + daysY i, 1) ⟨0, by omega, by simp, by simp [daysM]⟩
    obtain ⟨n, m⟩ := z
    obtain ⟨k, hk, hz2, hz1⟩ := hK
    simp only at hz1 hz2 ⊢
    subst hz1 hz2
    have rm := daysM_range a0 k (by omega)
    refine ⟨fun hlt => ⟨⟨by omega, by omega, by omega⟩, ?_⟩, fun hge => ?_⟩
    · have rmd := monthDays_range a0 (m := (k : Int) + 1) (by omega) (by omega)
      have w1 : IntKind.i64.wrap (a2 - 1 + daysY i + daysM a0 k + mMonthDays a0 (1 + (k : Int))) = a2 - 1 + daysY i + daysM a0 (k + 1) := by
        rw [show 1 + (k : Int) = (k : Int) + 1 by omega, wrap64 (by omega) (by omega)]; simp only [daysM]; omega
      have w2 : IntKind.i64.wrap (1 + (k : Int) + 1) = 1 + ((k + 1 : Nat) : Int) := by rw [wrap64 (by omega) (by omega)]; omega
      rw [w1, w2]
      exact ik _ ⟨k + 1, by omega, rfl, rfl⟩ (by simp only; omega)
    · have hke : (a1 - 1).toNat = k := by omega
      rw [hke]
theorem spec_DaysOf_ok (a0 a1 a2 : Int) (h0 : pDaysOf a0 a1 a2) : s_spec_DaysOf a0 a1 a2 (fun r => r = mDaysOf a0 a1 a2) := by
  refine ⟨trivial, fun hn => daysOf_no fun hh => hn hh.1, fun hy => ⟨trivial, fun hn => daysOf_no fun hh => hn hh.2.1, fun hm => ?_⟩⟩
  have hy := Classical.not_not.1 hy
  have hm := Classical.not_not.1 hm
  have iy := in_iff.1 hy
  have im := in_iff.1 hm
  have wm : IntKind.i64.wrap (a1 - 1) = a1 - 1 := wrap64 (by omega) (by omega)
  rw [wm]
  have ml := months_len a0
  refine ⟨show 0 ≤ a0 by omega, by omega, by omega, trivial, fun hn => daysOf_no fun hh => hn hh.2.2, fun hd => ?_⟩
  have hd : mIn a2 1 (mMonthDays a0 a1) = true := Classical.not_not.1 hd
  have id := in_iff.1 hd
  have hr := monthDays_range a0 im.1 im.2
  rw [← daysOf_yes hy hm hd]
  have w0 : IntKind.i64.wrap (a2 - 1) = a2 - 1 := wrap64 (by omega) (by omega)
  rw [w0]
  intro L hL
  refine loopI hL (fun z => ∃ i : Nat, (i : Int) ≤ a0 - 1970 ∧ z.2 = 1970 + (i : Int) ∧ z.1 = a2 - 1 + daysY i) (fun z => (a0 - z.2).toNat) (fun z hI ih => ?_) (a2 - 1, 1970) ⟨0, by omega, by simp, by simp [daysY]⟩
  obtain ⟨n, y⟩ := z
  obtain ⟨i, hi, hz2, hz1⟩ := hI
  simp only at hz1 hz2 ⊢
  subst hz1 hz2
  have ry := daysY_range i
  have ryd := yearDays_range (1970 + (i : Int))
  have w2 : IntKind.i64.wrap (1970 + (i : Int) + 1) = 1970 + ((i + 1 : Nat) : Int) ∨ ¬ (1970 + (i : Int) < a0) := by
    by_cases hlt : 1970 + (i : Int) < a0
    · left; rw [wrap64 (by omega) (by omega)]; omega
    · exact .inr hlt
  refine ⟨fun hlt => ⟨show 0 ≤ 1970 + (i : Int) by omega, fun hl => ?_, fun hl => ?_⟩, fun hge => ?_⟩
  · have w1 : IntKind.i64.wrap (IntKind.i64.wrap (a2 - 1 + daysY i + 365) + 1) = a2 - 1 + daysY (i + 1) := by
      have e : mYearDays (1970 + (i : Int)) = 366 := by unfold mYearDays; rw [if_pos hl]
      rw [wrap64 (n := a2 - 1 + daysY i + 365) (by omega) (by omega), wrap64 (by omega) (by omega)]; simp only [daysY, e]; omega
    rw [w1, w2.resolve_right (fun h => h hlt)]
    exact ih _ ⟨i + 1, by omega, rfl, rfl⟩ (by simp only; omega)
  · have w1 : IntKind.i64.wrap (a2 - 1 + daysY i + 365) = a2 - 1 + daysY (i + 1) := by
      have e : mYearDays (1970 + (i : Int)) = 365 := by unfold mYearDays; rw [if_neg hl]
      rw [wrap64 (by omega) (by omega)]; simp only [daysY, e]; omega
    rw [w1, w2.resolve_right (fun h => h hlt)]
    exact ih _ ⟨i + 1, by omega, rfl, rfl⟩ (by simp only; omega)
  · have hie : (a0 - 1970).toNat = i := by omega
    rw [hie]
    intro L2 hL2
    refine loopI hL2 (fun z => ∃ k : Nat, (k : Int) ≤ a1 - 1 ∧ z.2 = 1 + (k : Int) ∧ z.1 = a2 - 1 + daysY i + daysM a0 k) (fun z => (a1 - z.2).toNat) (fun z hK ik => ?_) (a2 - 1 + daysY i, 1) ⟨0, by omega, by simp, by simp [daysM]⟩
    obtain ⟨n, m⟩ := z
    obtain ⟨k, hk, hz2, hz1⟩ := hK
    simp only at hz1 hz2 ⊢
    subst hz1 hz2
    have rm := daysM_range a0 k (by omega)
    refine ⟨fun hlt => ?_, fun hge => ?_⟩
    · have rmd := monthDays_range a0 (m := (k : Int) + 1) (by omega) (by omega)
      have wk : IntKind.i64.wrap (1 + (k : Int) - 1) = (k : Int) := by rw [wrap64 (by omega) (by omega)]; omega
      rw [wk]
      have ek : rx (mL4Months a0) (k : Int) = mMonthDays a0 ((k : Int) + 1) := by unfold mMonthDays; rw [show (k : Int) + 1 - 1 = (k : Int) by omega]
      rw [ek]
      refine ⟨show 0 ≤ a0 by omega, by omega, by omega, ?_⟩
      have w1 : IntKind.i64.wrap (a2 - 1 + daysY i + daysM a0 k + mMonthDays a0 ((k : Int) + 1)) = a2 - 1 + daysY i + daysM a0 (k + 1) := by
        rw [wrap64 (by omega) (by omega)]; simp only [daysM]; omega
      have w3 : IntKind.i64.wrap (1 + (k : Int) + 1) = 1 + ((k + 1 : Nat) : Int) := by rw [wrap64 (by omega) (by omega)]; omega
      rw [w1, w3]
      exact ik _ ⟨k + 1, by omega, rfl, rfl⟩ (by simp only; omega)
    · have hke : (a1 - 1).toNat = k := by omega
      rw [hke]
theorem impl_months_ok : s_impl_months (fun r => r = mMonths ()) := rfl
theorem two_tab : ∀ k : Fin 100, (mItoa (IntKind.i64.wrap (100 + ((k.val : Nat) : Int)))).size = 3 ∧ (mItoa (IntKind.i64.wrap (100 + ((k.val : Nat) : Int)))).extract 1 (mItoa (IntKind.i64.wrap (100 + ((k.val : Nat) : Int)))).size = mTwo ((k.val : Nat) : Int) ∧
    strOf [IntKind.u8.wrap (IntKind.i64.wrap (48 + (IntKind.i64.wrap (((k.val : Nat) : Int).tdiv 10)).tmod 10)), IntKind.u8.wrap (IntKind.i64.wrap (48 + ((k.val : Nat) : Int).tmod 10))] = mTwo ((k.val : Nat) : Int) := by decide +kernel
theorem impl_two_ok (a0 : Int) (h : pTwo a0) : s_impl_two a0 (fun r => r = mTwo a0) := by
  obtain ⟨h0, h1⟩ := h
  obtain ⟨t1, t2, _⟩ := two_tab ⟨a0.toNat, by omega⟩
  simp only at t1 t2
  rw [show ((a0.toNat : Nat) : Int) = a0 by omega] at t1 t2
  refine ⟨?_, by omega, by rw [t1]; decide, t2⟩
  rw [wrap64 (by omega) (by omega)]
  exact ⟨by omega, by omega⟩
theorem spec_l4Two_ok (a0 : Int) (h : pL4Two a0) : s_spec_l4Two a0 (fun r => r = mL4Two a0) := by
  obtain ⟨h0, h1⟩ := h
  obtain ⟨_, _, t3⟩ := two_tab ⟨a0.toNat, by omega⟩
  simp only at t3
  rw [show ((a0.toNat : Nat) : Int) = a0 by omega] at t3
  exact ⟨by decide, by decide, by decide, t3⟩
end Go.Ev
end

section
/- Laws of the plain library: texts of moments. -/
set_option linter.unusedVariables false
namespace Go.Ev
theorem week_tab : ∀ i : Fin 7, (rx weekL ((i.val : Nat) : Int)).size = 3 := by decide +kernel
theorem month_tab : ∀ i : Fin 12, (rx monthL ((i.val : Nat) : Int)).size = 3 := by decide +kernel
theorem week_size {i : Int} (h0 : 0 ≤ i) (h1 : i < 7) : (rx weekL i).size = 3 := by
  have := week_tab ⟨i.toNat, by omega⟩
  simp only at this
  rwa [show ((i.toNat : Nat) : Int) = i by omega] at this
theorem month_size {i : Int} (h0 : 0 ≤ i) (h1 : i < 12) : (rx monthL i).size = 3 := by
  have := month_tab ⟨i.toNat, by omega⟩
  simp only at this
  rwa [show ((i.toNat : Nat) : Int) = i by omega] at this
theorem two_size (n : Int) : (mTwo n).size = 2 := rfl
theorem decS_le (n : Int) (h : pDec n) : (mDec n).size ≤ 21 := by
  unfold mDec mItoa
  rw [ob_size]
  exact Lib.itoa_length_le n h.1 h.2
theorem lit_size (l : List Nat) : (lit l).size = l.length := by unfold lit; simp [ByteArray.size]
theorem showDate_no {a : Int} (h : ¬ (0 ≤ a ∧ a ≤ 2000000000)) : lit [] = mShowDate a := by
  unfold mShowDate
  rw [dif_neg fun hh => h ⟨hh.1, hh.2.1⟩]
theorem impl_ShowDate_ok (a0 : Int) (h : pShowDate a0) : s_impl_ShowDate a0 (fun r => r = mShowDate a0) := by
  refine ⟨trivial, fun hn => showDate_no fun hh => hn (in_iff.2 hh), fun hy => ?_⟩
  have hr := in_iff.1 (Classical.not_not.1 hy)
  have e1 : IntKind.i64.wrap (a0.tdiv 86400) = a0 / 86400 := by rw [tdivI hr.1, wrap64 (by omega) (by omega)]
  have e2 : (a0 / 86400).tmod 7 = a0 / 86400 % 7 := tmodI (by omega)
  have hW := week_size (i := a0 / 86400 % 7) (by omega) (by omega)
  have e3 : IntKind.i64.wrap ((a0.tmod 86400).tdiv 3600) = a0 / 3600 % 24 := by rw [tmodI hr.1, tdivI (by omega), wrap64 (by omega) (by omega)]; omega
  have e4 : (IntKind.i64.wrap ((a0.tmod 86400).tdiv 60)).tmod 60 = a0 / 60 % 60 := by rw [tmodI hr.1, tdivI (by omega), wrap64 (by omega) (by omega), tmodI (by omega)]; omega
  have e5 : (a0.tmod 86400).tmod 60 = a0 % 60 := by rw [tmodI hr.1, tmodI (by omega)]; omega
  simp only [e1, e2, e3, e4, e5]
  refine ⟨by decide, by decide, by decide, by omega, by show _ < (7 : Int); omega, ?_⟩
  generalize hD : a0 / 86400 = D at *
  have hD2 : D < 23376 := by omega
  intro L hL
  refine loopI hL (fun z => ∃ k : Nat, z.2 = 1970 + (k : Int) ∧ z.1 = D - daysY k ∧ 0 ≤ z.1 ∧ k ≤ 64) (fun z => (z.1).toNat) (fun z hI ih => ?_) (D, 1970) ⟨0, by simp, by simp [daysY], by omega, by omega⟩
  obtain ⟨n, y⟩ := z
  obtain ⟨k, hz2, hz1, hn, hk⟩ := hI
  simp only at hz1 hz2 hn ⊢
  subst hz1 hz2
  have rk := daysY_range k
  have ryd := yearDays_range (1970 + (k : Int))
  refine ⟨show 0 ≤ 1970 + (k : Int) by omega, fun hle => ⟨show 0 ≤ 1970 + (k : Int) by omega, ?_⟩, fun hgt => ?_⟩
  · have hk1 : k + 1 ≤ 64 := by
      apply Classical.byContradiction
      intro hh
      have : k = 64 := by omega
      subst this
      rw [daysY_67] at hn
      omega
    have w1 : IntKind.i64.wrap (D - daysY k - mYearDays (1970 + (k : Int))) = D - daysY (k + 1) := by rw [wrap64 (by omega) (by omega)]; simp only [daysY]; omega
    have w2 : IntKind.i64.wrap (1970 + (k : Int) + 1) = 1970 + ((k + 1 : Nat) : Int) := by rw [wrap64 (by omega) (by omega)]; omega
    rw [w1, w2]
    exact ih _ ⟨k + 1, rfl, rfl, by simp only [daysY]; omega, hk1⟩ (by simp only [daysY]; omega)
  · intro L2 hL2
    refine loopI hL2 (fun z => ∃ j : Nat, j < 12 ∧ z.2 = 1 + (j : Int) ∧ z.1 = D - daysY k - daysM (1970 + (k : Int)) j ∧ 0 ≤ z.1) (fun z => (z.1).toNat) (fun z hI ih => ?_) (D - daysY k, 1) ⟨0, by omega, by simp, by simp [daysM], by simp only; omega⟩
    obtain ⟨n, m⟩ := z
    obtain ⟨j, hj, hz2, hz1, hn2⟩ := hI
    simp only at hz1 hz2 hn2 ⊢
    subst hz1 hz2
    have rmd := monthDays_range (1970 + (k : Int)) (m := (j : Int) + 1) (by omega) (by omega)
    have rdm := daysM_range (1970 + (k : Int)) j (by omega)
    have ej : (1 : Int) + (j : Int) = (j : Int) + 1 := by omega
    rw [ej]
    refine ⟨⟨by omega, by omega, by omega⟩, fun hle => ⟨⟨by omega, by omega, by omega⟩, ?_⟩, fun hgt2 => ?_⟩
    · have hj1 : j + 1 < 12 := by
        apply Classical.byContradiction
        intro hh
        have : j = 11 := by omega
        subst this
        have h12 : daysM (1970 + (k : Int)) 12 = daysM (1970 + (k : Int)) 11 + mMonthDays (1970 + (k : Int)) (((11 : Nat) : Int) + 1) := rfl
        rw [daysM_year] at h12
        omega
      have w1 : IntKind.i64.wrap (D - daysY k - daysM (1970 + (k : Int)) j - mMonthDays (1970 + (k : Int)) ((j : Int) + 1)) = D - daysY k - daysM (1970 + (k : Int)) (j + 1) := by rw [wrap64 (by omega) (by omega)]; simp only [daysM]; omega
      have w2 : IntKind.i64.wrap ((j : Int) + 1 + 1) = 1 + ((j + 1 : Nat) : Int) := by rw [wrap64 (by omega) (by omega)]; omega
      rw [w1, w2]
      exact ih _ ⟨j + 1, hj1, rfl, rfl, by simp only [daysM]; omega⟩ (by simp only [daysM]; omega)
    · have civ : civil D k j := ⟨by omega, hj, by omega, by simp only [daysM]; omega⟩
      have w1 : IntKind.i64.wrap (D - daysY k - daysM (1970 + (k : Int)) j + 1) = D - daysY k - daysM (1970 + (k : Int)) j + 1 := wrap64 (by omega) (by omega)
      have w2 : IntKind.i64.wrap ((j : Int) + 1 - 1) = (j : Int) := by rw [wrap64 (by omega) (by omega)]; omega
      have hy : pDec (1970 + (k : Int)) := ⟨by omega, by omega⟩
      have hdec := decS_le _ hy
      have hdec2 : (mItoa (1970 + (k : Int))).size ≤ 21 := hdec
      have hM := month_size (i := (j : Int)) (by omega) (by omega)
      simp only [w1, w2]
      repeat' apply And.intro
      all_goals first
        | (simp only [size_append, two_size, hW, hM, lit_size, List.length_cons, List.length_nil]; omega)
        | exact hy
        | exact ⟨by omega, by omega⟩
        | decide
        | (show _ < (12 : Int); omega)
        | omega
        | exact trivial
        | skip
      subst hD
      rw [showDate_at hr.1 hr.2 civ]
      rfl
end Go.Ev
end

section
/- Laws of the plain library: texts of moments, as spec makes them. -/
set_option linter.unusedVariables false
namespace Go.Ev
theorem daysOf_year {k : Nat} (h : k ≤ 67) : mDaysOf (1970 + (k : Int)) 1 1 = daysY k := by
  have hr := monthDays_range (1970 + (k : Int)) (m := 1) (by omega) (by omega)
  rw [← daysOf_yes (in_iff.2 ⟨by omega, by omega⟩) (in_iff.2 ⟨by omega, by omega⟩) (in_iff.2 ⟨by omega, by omega⟩)]
  rw [show (1970 + (k : Int) - 1970).toNat = k by omega, show ((1 : Int) - 1).toNat = 0 by omega]
  simp [daysM]
theorem daysOf_month {k j : Nat} (h : k ≤ 67) (hj : j < 12) : mDaysOf (1970 + (k : Int)) (1 + (j : Int)) 1 = daysY k + daysM (1970 + (k : Int)) j := by
  have hr := monthDays_range (1970 + (k : Int)) (m := 1 + (j : Int)) (by omega) (by omega)
  rw [← daysOf_yes (in_iff.2 ⟨by omega, by omega⟩) (in_iff.2 ⟨by omega, by omega⟩) (in_iff.2 ⟨by omega, by omega⟩)]
  rw [show (1970 + (k : Int) - 1970).toNat = k by omega, show ((1 : Int) + (j : Int) - 1).toNat = j by omega]
  omega
theorem spec_ShowDate_ok (a0 : Int) (h : pShowDate a0) : s_spec_ShowDate a0 (fun r => r = mShowDate a0) := by
  refine ⟨trivial, fun hn => showDate_no fun hh => hn (in_iff.2 hh), fun hy => ?_⟩
  have hr := in_iff.1 (Classical.not_not.1 hy)
  have e1 : IntKind.i64.wrap (a0.tdiv 86400) = a0 / 86400 := by rw [tdivI hr.1, wrap64 (by omega) (by omega)]
  have e2 : (a0 / 86400).tmod 7 = a0 / 86400 % 7 := tmodI (by omega)
  have hW := week_size (i := a0 / 86400 % 7) (by omega) (by omega)
  have e3 : (IntKind.i64.wrap (a0.tdiv 3600)).tmod 24 = a0 / 3600 % 24 := by rw [tdivI hr.1, wrap64 (by omega) (by omega), tmodI (by omega)]
  have e4 : (IntKind.i64.wrap (a0.tdiv 60)).tmod 60 = a0 / 60 % 60 := by rw [tdivI hr.1, wrap64 (by omega) (by omega), tmodI (by omega)]
  have e5 : a0.tmod 60 = a0 % 60 := tmodI hr.1
  simp only [e1, e2, e3, e4, e5]
  refine ⟨by decide, ?_⟩
  generalize hD : a0 / 86400 = D at *
  have hD2 : D < 23376 := by omega
  intro L hL
  refine loopI hL (fun y => ∃ k : Nat, y = 1970 + (k : Int) ∧ daysY k ≤ D ∧ k ≤ 64) (fun y => (2037 - y).toNat) (fun y hI ih => ?_) 1970 ⟨0, by simp, by simp [daysY]; omega, by omega⟩
  obtain ⟨k, rfl, hk0, hk⟩ := hI
  have rk := daysY_range k
  have ryd := yearDays_range (1970 + (k : Int))
  have wy : IntKind.i64.wrap (1970 + (k : Int) + 1) = 1970 + ((k + 1 : Nat) : Int) := by rw [wrap64 (by omega) (by omega)]; omega
  rw [wy, daysOf_year (by omega)]
  refine ⟨fun hlt => ⟨trivial, fun hle => ?_, fun hgt => ?_⟩, fun hge => absurd (show 1970 + (k : Int) < 2037 by omega) hge⟩
  · have hk1 : k + 1 ≤ 64 := by
      apply Classical.byContradiction
      intro hh
      have : k = 64 := by omega
      subst this
      have := daysY_mono (show 64 ≤ 64 + 1 by omega)
      rw [daysY_67] at this
      omega
    exact ih _ ⟨k + 1, rfl, hle, hk1⟩ (by omega)
  · intro L2 hL2
    refine loopI hL2 (fun m => ∃ j : Nat, j < 12 ∧ m = 1 + (j : Int) ∧ daysY k + daysM (1970 + (k : Int)) j ≤ D) (fun m => (12 - m).toNat) (fun m hI ih => ?_) 1 ⟨0, by omega, by simp, by simp [daysM]; omega⟩
    obtain ⟨j, hj, rfl, hj0⟩ := hI
    have rdm := daysM_range (1970 + (k : Int)) j (by omega)
    have wm : IntKind.i64.wrap (1 + (j : Int) + 1) = 1 + ((j + 1 : Nat) : Int) := by rw [wrap64 (by omega) (by omega)]; omega
    have dAt := daysOf_month (k := k) (by omega) hj
    have hy : pDec (1970 + (k : Int)) := ⟨by omega, by omega⟩
    have hdec := decS_le _ hy
    have hM := month_size (i := (j : Int)) (by omega) (by omega)
    have hup : D - (daysY k + daysM (1970 + (k : Int)) j) < 366 := by
      have : D < daysY k + mYearDays (1970 + (k : Int)) := by simp only [daysY] at hgt; omega
      omega
    rw [wm]
    refine ⟨fun hlt2 => ⟨trivial, fun hle => ?_, fun hgt2 => ?_⟩, fun hge2 => ?_⟩
    · rw [daysOf_month (by omega) (by omega)] at hle
      exact ih _ ⟨j + 1, by omega, rfl, hle⟩ (by omega)
    · rw [daysOf_month (by omega) (by omega)] at hgt2
      have civ : civil D k j := ⟨by omega, hj, by omega, by omega⟩
      have rmd := monthDays_range (1970 + (k : Int)) (m := (j : Int) + 1) (by omega) (by omega)
      have hup2 : D - (daysY k + daysM (1970 + (k : Int)) j) < 31 := by simp only [daysM] at hgt2; omega
      have w1 : IntKind.i64.wrap (IntKind.i64.wrap (D - mDaysOf (1970 + (k : Int)) (1 + (j : Int)) 1) + 1) = D - daysY k - daysM (1970 + (k : Int)) j + 1 := by rw [dAt, wrap64 (n := D - (daysY k + daysM (1970 + (k : Int)) j)) (by omega) (by omega), wrap64 (by omega) (by omega)]; omega
      have w2 : IntKind.i64.wrap (1 + (j : Int) - 1) = (j : Int) := by rw [wrap64 (by omega) (by omega)]; omega
      simp only [w1, w2]
      repeat' apply And.intro
      all_goals first
        | (simp only [size_append, mL4Two, two_size, hW, hM, lit_size, List.length_cons, List.length_nil]; omega)
        | exact hy
        | exact ⟨by omega, by omega⟩
        | decide
        | (show _ < (7 : Int); omega)
        | (show _ < (12 : Int); omega)
        | omega
        | exact trivial
        | skip
      subst hD
      rw [showDate_at hr.1 hr.2 civ]
      rfl
    · have hje : j = 11 := by omega
      have civ : civil D k j := ⟨by omega, hj, by omega, by
        subst hje
        show D < daysY k + daysM (1970 + (k : Int)) 12
        rw [daysM_year]
        simp only [daysY] at hgt
        omega⟩
      have rmd := monthDays_range (1970 + (k : Int)) (m := (j : Int) + 1) (by omega) (by omega)
      have hup2 : D - (daysY k + daysM (1970 + (k : Int)) j) < 31 := by
        have := civ.2.2.2
        simp only [daysM] at this; omega
      have w1 : IntKind.i64.wrap (IntKind.i64.wrap (D - mDaysOf (1970 + (k : Int)) (1 + (j : Int)) 1) + 1) = D - daysY k - daysM (1970 + (k : Int)) j + 1 := by rw [dAt, wrap64 (n := D - (daysY k + daysM (1970 + (k : Int)) j)) (by omega) (by omega), wrap64 (by omega) (by omega)]; omega
      have w2 : IntKind.i64.wrap (1 + (j : Int) - 1) = (j : Int) := by rw [wrap64 (by omega) (by omega)]; omega
      simp only [w1, w2]
      repeat' apply And.intro
      all_goals first
        | (simp only [size_append, mL4Two, two_size, hW, hM, lit_size, List.length_cons, List.length_nil]; omega)
        | exact hy
        | exact ⟨by omega, by omega⟩
        | decide
        | (show _ < (7 : Int); omega)
        | (show _ < (12 : Int); omega)
        | omega
        | exact trivial
        | skip
      subst hD
      rw [showDate_at hr.1 hr.2 civ]
      rfl
end Go.Ev
end

section
/- Laws of the plain library, second part: searches. -/
set_option linter.unusedVariables false
namespace Go.Ev

def scanS {α : Type} [Dft α] (xs : List α) (P C : α → Prop) (Qh : Int → Prop) (Qe : Prop) : Prop :=
  ∀ L : Int → Prop, (∀ y : Int, ((y < (xs.length : Int) → 0 ≤ y ∧ y < (xs.length : Int) ∧ P (rx xs y) ∧ ((C (rx xs y) → Qh y) ∧ (¬ C (rx xs y) → L (IntKind.i64.wrap (y + 1))))) ∧
    (¬ y < (xs.length : Int) → Qe)) → L y) → L 0
theorem scanS_ok {α : Type} [Dft α] {xs : List α} {P C : α → Prop} {Qh : Int → Prop} {Qe : Prop} (hlen : xs.length ≤ maxLen) (hP : ∀ x ∈ xs, P x)
    (hh : ∀ (i : Nat) (h : i < xs.length), C xs[i] → (∀ (j : Nat) (hj : j < i), ¬ C (xs[j]'(by omega))) → Qh (i : Int)) (he : (∀ x ∈ xs, ¬ C x) → Qe) : scanS xs P C Qh Qe := by
  intro L hL
  simp only [maxLen] at hlen
  refine loopN hL xs.length (by omega) (fun i => ∀ (j : Nat) (hj : j < i) (h : j < xs.length), ¬ C xs[j]) (fun i hi hI hn => ?_) (fun j hj => by omega)
  refine ⟨fun hlt => ?_, fun hge => ?_⟩
  · have hlt : i < xs.length := by omega
    rw [rx_get xs hlt]
    refine ⟨by omega, by omega, hP _ (List.getElem_mem hlt), fun hc => hh i hlt hc fun j hj => hI j hj (by omega), fun hc => hn hlt fun j hj h => ?_⟩
    by_cases e : j = i
    · subst e; exact hc
    · exact hI j (by omega) h
  · refine he fun x hx => ?_
    obtain ⟨j, hj, rfl⟩ := List.mem_iff_getElem.1 hx
    exact hI j (by omega) hj
def scanT {α : Type} [Dft α] (xs : List α) (C : α → Prop) (Qh : Int → Prop) (Qe : Prop) : Prop :=
  ∀ L : Int → Prop, (∀ y : Int, ((y < (xs.length : Int) → 0 ≤ y ∧ y < (xs.length : Int) ∧ ((C (rx xs y) → Qh y) ∧ (¬ C (rx xs y) → L (IntKind.i64.wrap (y + 1))))) ∧
    (¬ y < (xs.length : Int) → Qe)) → L y) → L 0
theorem scanT_ok {α : Type} [Dft α] {xs : List α} {C : α → Prop} {Qh : Int → Prop} {Qe : Prop} (hlen : xs.length ≤ maxLen)
    (hh : ∀ (i : Nat) (h : i < xs.length), C xs[i] → (∀ (j : Nat) (hj : j < i), ¬ C (xs[j]'(by omega))) → Qh (i : Int)) (he : (∀ x ∈ xs, ¬ C x) → Qe) : scanT xs C Qh Qe := by
  have h : scanS xs (fun _ => True) C Qh Qe := scanS_ok hlen (fun _ _ => trivial) hh he
  intro L hL
  exact h L fun y hy => hL y ⟨fun h1 => ⟨(hy.1 h1).1, (hy.1 h1).2.1, (hy.1 h1).2.2.2⟩, hy.2⟩
theorem md_len' {α : Type} [Cz α] {xs : List α} (h : md xs) : xs.length ≤ 1048576 := by
  have := cz_len xs
  unfold md at h
  omega

theorem idxS_ok {α : Type} [Dft α] {xs : List α} {P : α → Prop} {F : α → Bool} (hlen : xs.length ≤ maxLen) (hP : ∀ x ∈ xs, P x) :
    scanS xs P (fun x => F x = true) (fun i => i = idxI F xs) (-1 = idxI F xs) :=
  scanS_ok hlen hP (fun i h hc hb => (idxI_at h hc fun j hj => by have := hb j hj; simpa using this).symm)
    (fun h => (idxI_none fun j hj => by have := h _ (List.getElem_mem hj); simpa using this).symm)
theorem idxI_nonneg {α : Type} {F : α → Bool} {xs : List α} : decide (0 ≤ idxI F xs) = xs.any F := by
  have h := idxI_neg (p := F) (xs := xs)
  cases hx : xs.any F with
  | true =>
    rw [hx] at h
    have : ¬ idxI F xs < 0 := by rw [h]; simp
    exact decide_eq_true (by omega)
  | false =>
    have := h.2 hx
    exact decide_eq_false (by omega)
theorem slices_Index_string_ok (a0 : List S) (a1 : S) (h : pIndex_string a0 a1) : s_slices_Index_string a0 a1 (fun r => r = mIndex_string a0 a1) := by
  refine scanT_ok (C := fun x => a1 = x) (Qh := fun i => i = mIndex_string a0 a1) h (fun i hi hc hb => ?_) (fun hx => ?_)
  · exact (idxI_at hi (by simpa using hc) fun j hj => by have := hb j hj; simpa using this).symm
  · exact (idxI_none fun j hj => by have := hx _ (List.getElem_mem hj); simpa using this).symm
end Go.Ev
end

section
/- Laws of the plain library, third part: texts out of texts. -/
set_option linter.unusedVariables false
namespace Go.Ev

theorem joinL_snoc (sep : S) : ∀ (vs : List S) (v : S), joinL sep (vs ++ [v]) = if vs = [] then v else joinL sep vs ++ sep ++ v
  | [], v => rfl
  | [x], v => rfl
  | x :: y :: r, v => by
    have ih := joinL_snoc sep (y :: r) v
    simp only [List.cons_append, joinL, reduceCtorEq, if_false] at ih ⊢
    rw [ih]
    apply bs_inj
    simp only [bs_append, List.append_assoc]
theorem joinL_size (sep : S) : ∀ (vs : List S), (joinL sep vs).size ≤ sumN (vs.map fun x => x.size) + vs.length * sep.size
  | [] => by show (lit []).size ≤ _; exact Nat.zero_le _
  | [x] => by simp only [joinL, List.map_cons, List.map_nil, sumN, List.length_singleton]; omega
  | x :: y :: r => by
    have ih := joinL_size sep (y :: r)
    simp only [joinL, size_append, List.map_cons, sumN, List.length_cons] at ih ⊢
    rw [Nat.succ_mul]
    omega
theorem sumN_append : ∀ (a b : List Nat), sumN (a ++ b) = sumN a + sumN b
  | [], b => by simp [sumN]
  | x :: a, b => by simp only [List.cons_append, sumN, sumN_append a b]; omega
theorem valuesOf_bound (n : S) : ∀ (l : List Fld), sumN ((valuesOf l n).map fun x => x.size) + (valuesOf l n).length ≤ cz l
  | [] => by simp [valuesOf, sumN]
  | f :: l => by
    have ih := valuesOf_bound n l
    simp only [valuesOf, cz_list, List.filter_cons, List.length_cons, List.map_cons, sumN, cz_pair, cz_str] at ih ⊢
    split
    · simp only [List.map_cons, sumN, List.length_cons]; omega
    · omega
theorem valuesOf_take (l : List Fld) (n : S) {i : Nat} (h : i < l.length) : valuesOf (l.take (i + 1)) n = if l[i].1 = n then valuesOf (l.take i) n ++ [l[i].2] else valuesOf (l.take i) n := by
  rw [take_succ_app h]
  unfold valuesOf
  rw [List.filter_append, List.map_append]
  by_cases e : l[i].1 = n
  · simp [e]
  · simp [e]
theorem cz_take {α : Type} [Cz α] (l : List α) (i : Nat) : cz (l.take i) ≤ cz l := by
  have h : sumN (l.map cz) = sumN ((l.take i).map cz) + sumN ((l.drop i).map cz) := by
    rw [← sumN_append, ← List.map_append, List.take_append_drop]
  simp only [cz_list, List.length_take]
  omega
theorem sep_size : (lit [44, 32]).size = 2 := rfl
theorem spec_FieldGet_ok (a0 : List Fld) (a1 : S) (h : pFieldGet a0 a1) : s_spec_FieldGet a0 a1 (fun r => r = mFieldGet a0 a1) := by
  intro L hL
  have hlen := md_len' h
  have hb : ∀ i, (joinL (lit [44, 32]) (valuesOf (a0.take i) a1)).size ≤ 3 * 1048576 := fun i => by
    have h1 := joinL_size (lit [44, 32]) (valuesOf (a0.take i) a1)
    have h2 := valuesOf_bound a1 (a0.take i)
    have h3 := cz_take a0 i
    have h4 : cz a0 ≤ 1048576 := h
    rw [sep_size] at h1
    omega
  refine loopG hL a0.length (fun i y => y.2.2 = (i : Int) ∧ y.1 = joinL (lit [44, 32]) (valuesOf (a0.take i) a1) ∧ y.2.1 = decide (valuesOf (a0.take i) a1 ≠ [])) (fun i y hi hI hn => ?_) (s0 := (lit [], false, 0)) ⟨rfl, rfl, rfl⟩
  obtain ⟨y1, y2, y3⟩ := y
  simp only at hI ⊢
  obtain ⟨rfl, rfl, rfl⟩ := hI
  refine ⟨fun hlt => ?_, fun hge => ?_⟩
  · have hi2 : i < a0.length := by omega
    have hv := valuesOf_take a0 a1 hi2
    have hval : cz a0[i] ≤ 1048576 := md_mem h (List.getElem_mem hi2)
    simp only [cz_pair, cz_str] at hval
    have hbi := hb i
    rw [rx_get a0 hi2, wrapS (by omega)]
    refine ⟨by omega, by omega, fun hne => hn _ hi2 ⟨rfl, ?_, ?_⟩, fun heq => ?_⟩
    · rw [hv, if_neg hne]
    · rw [hv, if_neg hne]
    · have heq : a0[i].1 = a1 := Classical.not_not.1 heq
      rw [if_pos heq] at hv
      refine ⟨fun hs => ?_, fun hs => ?_⟩
      · have hs := of_decide_eq_true hs
        refine ⟨by rw [sep_size]; omega, by omega, by omega, by rw [size_append, sep_size]; omega, hn _ hi2 ⟨rfl, ?_, ?_⟩⟩
        · rw [hv, joinL_snoc, if_neg hs]
        · rw [hv]; simp
      · have hs : valuesOf (a0.take i) a1 = [] := by simpa using hs
        refine ⟨by omega, by omega, by omega, hn _ hi2 ⟨rfl, ?_, ?_⟩⟩
        · rw [hv, hs, joinL_snoc, if_pos rfl]
          apply bs_inj; rw [bs_append]; rfl
        · rw [hv]; simp
  · have e : a0.take i = a0 := List.take_of_length_le (by omega)
    rw [e]
    unfold mFieldGet mJoin
    congr 1
    rw [decide_eq_decide]
    rw [List.length_pos_iff]
theorem pJoin_values (a0 : List Fld) (a1 : S) (h : pFieldGet a0 a1) : pJoin (valuesOf a0 a1) (lit [44, 32]) := by
  have h2 := valuesOf_bound a1 a0
  have h4 : cz a0 ≤ 1048576 := h
  exact ⟨by omega, by omega, by rw [sep_size]; omega⟩
theorem impl_FieldGet_ok (a0 : List Fld) (a1 : S) (h : pFieldGet a0 a1) : s_impl_FieldGet a0 a1 (fun r => r = mFieldGet a0 a1) := by
  intro L hL
  have hlen := md_len' h
  refine loopG hL a0.length (fun i y => y.2 = (i : Int) ∧ y.1 = valuesOf (a0.take i) a1) (fun i y hi hI hn => ?_) (s0 := ([], 0)) ⟨rfl, rfl⟩
  obtain ⟨y1, y2⟩ := y
  simp only at hI ⊢
  obtain ⟨rfl, rfl⟩ := hI
  refine ⟨fun hlt => ?_, fun hge => ?_⟩
  · have hi2 : i < a0.length := by omega
    have hv := valuesOf_take a0 a1 hi2
    have h2 := valuesOf_bound a1 (a0.take i)
    have h3 := cz_take a0 i
    have h4 : cz a0 ≤ 1048576 := h
    rw [rx_get a0 hi2, wrapS (by omega)]
    refine ⟨by omega, by omega, fun he => ⟨by simp only [List.length_singleton]; omega, hn _ hi2 ⟨rfl, by rw [hv, if_pos he]⟩⟩, fun hne => hn _ hi2 ⟨rfl, by rw [hv, if_neg hne]⟩⟩
  · have e : a0.take i = a0 := List.take_of_length_le (by omega)
    rw [e]
    refine ⟨pJoin_values a0 a1 h, ?_⟩
    unfold mFieldGet
    congr 1
    rw [decide_eq_decide]
    omega
theorem fieldGet_size (a0 : List Fld) (a1 : S) (h : pFieldGet a0 a1) : (mFieldGet a0 a1).1.size ≤ 3 * 1048576 := by
  have h1 := joinL_size (lit [44, 32]) (valuesOf a0 a1)
  have h2 := valuesOf_bound a1 a0
  have h4 : cz a0 ≤ 1048576 := h
  rw [sep_size] at h1
  unfold mFieldGet mJoin
  simp only
  omega

theorem partsL_nil (q : Bool) (cur : List UInt8) : partsL q cur [] = [cur] := by cases q <;> rfl
theorem partsL_one (cur : List UInt8) (b : UInt8) : partsL true cur [b] = [cur ++ [b]] := rfl
theorem partsL_in (cur : List UInt8) (b c : UInt8) (r : List UInt8) : partsL true cur (b :: c :: r) = if b = 34 then partsL false (cur ++ [b]) (c :: r) else if b = 92 then partsL true (cur ++ [b, c]) r else partsL true (cur ++ [b]) (c :: r) := by rw [partsL]
theorem partsL_out (cur : List UInt8) (b : UInt8) (r : List UInt8) : partsL false cur (b :: r) = if b = 34 then partsL true (cur ++ [b]) r else if b = 44 then cur :: partsL false [] r else partsL false (cur ++ [b]) r := by rw [partsL]
theorem partsL_bound : ∀ (q : Bool) (cur l : List UInt8), sumN ((partsL q cur l).map List.length) ≤ cur.length + l.length ∧ (partsL q cur l).length ≤ l.length + 1
  | q, cur, [] => by rw [partsL_nil]; simp [sumN]
  | true, cur, [b] => by rw [partsL_one]; simp [sumN]
  | true, cur, b :: c :: r => by
    rw [partsL_in]
    split
    · have := partsL_bound false (cur ++ [b]) (c :: r)
      simp only [List.length_append, List.length_cons, List.length_nil] at this ⊢
      omega
    · split
      · have := partsL_bound true (cur ++ [b, c]) r
        simp only [List.length_append, List.length_cons, List.length_nil] at this ⊢
        omega
      · have := partsL_bound true (cur ++ [b]) (c :: r)
        simp only [List.length_append, List.length_cons, List.length_nil] at this ⊢
        omega
  | false, cur, b :: r => by
    rw [partsL_out]
    split
    · have := partsL_bound true (cur ++ [b]) r
      simp only [List.length_append, List.length_cons, List.length_nil] at this ⊢
      omega
    · split
      · have := partsL_bound false [] r
        simp only [List.length_append, List.length_cons, List.length_nil, List.map_cons, sumN] at this ⊢
        omega
      · have := partsL_bound false (cur ++ [b]) r
        simp only [List.length_append, List.length_cons, List.length_nil] at this ⊢
        omega
theorem dropWhile_le {α : Type} (p : α → Bool) (l : List α) : (l.dropWhile p).length ≤ l.length := (List.dropWhile_sublist p).length_le
theorem trimS_le (l cs : List UInt8) : (Lib.trimS l cs).length ≤ l.length := by
  unfold Lib.trimS Lib.trimLeftS Lib.trimRightS
  have h1 := dropWhile_le (cs.contains ·) ((l.reverse.dropWhile (cs.contains ·)).reverse)
  have h2 := dropWhile_le (cs.contains ·) l.reverse
  simp only [List.length_reverse] at h1 h2
  omega
theorem mTrim_le (s : S) : (mTrim s).size ≤ s.size := by
  unfold mTrim
  rw [ob_size, ← bs_len]
  exact trimS_le _ _
theorem trimmed_bound : ∀ (l : List (List UInt8)), sumN ((trimmed l).map fun x => x.size) ≤ sumN (l.map List.length) ∧ (trimmed l).length ≤ l.length
  | [] => by simp [trimmed, sumN]
  | p :: l => by
    have ih := trimmed_bound l
    have h := mTrim_le (ob p)
    rw [ob_size] at h
    simp only [trimmed, List.map_cons, List.filter_cons] at ih ⊢
    split
    · simp only [List.map_cons, sumN, List.length_cons]; omega
    · simp only [sumN, List.length_cons]; omega
theorem splitList_bound (s : S) : sumN ((mSplitList s).map fun x => x.size) ≤ s.size ∧ (mSplitList s).length ≤ s.size + 1 := by
  have h1 := partsL_bound false [] (bs s)
  have h2 := trimmed_bound (partsL false [] (bs s))
  rw [bs_len] at h1
  unfold mSplitList
  simp only [List.length_nil] at h1
  omega
theorem splitList_mem {s x : S} (h : x ∈ mSplitList s) : x.size ≤ s.size := by
  have h1 := (splitList_bound s).1
  have h2 := sumN_mem (List.mem_map.2 ⟨x, h, rfl⟩ : x.size ∈ (mSplitList s).map fun x => x.size)
  omega
end Go.Ev
end
