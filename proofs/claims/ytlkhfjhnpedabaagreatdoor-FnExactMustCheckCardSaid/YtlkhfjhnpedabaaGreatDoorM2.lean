/- A small verified machine for the operations of the given program, and plain laws of what its functions compute; without conditions of its own. Part 3. -/
import Derived.Test.YtlkhfjhnpedabaaGreatDoorM1
import Derived.ChangeArms
import Derived.Deep.Slices
import Derived.DataReads
import Derived.WideShapes
import Derived.Lib.SlTrimSet
import Derived.Lib.Bytealg
import Derived.Lib.IndexMore
import Derived.Lib.Join
import Derived.Lib.ItoaMem
import Derived.Lib.ItoaLen
import Derived.Lib.AppendIntMem
import Derived.Lib.LaidTab
import Derived.Stop.LaidErr
import Derived.Laws.IdiomStrings
import Derived.Lib.AtoiAllMem
import Derived.Lib.AtoiAllCases
import Derived.Lib.Split
set_option linter.unusedVariables false
set_option linter.unusedSimpArgs false
section
/- The small machine is true to the model, twenty-fifth part: code, functions. -/
set_option linter.unusedVariables false
namespace Go.Ev
open Go.RowKit

section
variable {P : Program} {E : Env} {F : Fm} {G : Gh} {σ τ σ' σb σh : St} {a : Act} {w : World} {tmps : Array Value} {H : Nat → List CT}

def InLoop (P : Program) (c : Code) (Q : Exit → Act → World → Prop) (a : Act) (w : World) : Prop := ∀ (b : Frame) (k : List Item) (cs : List Frame),
  ∃ e a' w', Q e a' w' ∧ Arrives P (lone (b.at a (.code c :: .inLoop c :: k)) cs w) b k cs e a' w'
theorem inLoop_round {c : Code} {Q : Exit → Act → World → Prop} (h : c.wp P (Exit.then (InLoop P c Q) Q) a w) : InLoop P c Q a w := by
  intro b k cs
  obtain ⟨e, a₁, w₁, hq, harr⟩ := h b (.inLoop c :: k) cs
  cases e with
  | normal =>
    obtain ⟨e₂, a₂, w₂, hq₂, harr₂⟩ := hq b k cs
    exact ⟨e₂, a₂, w₂, hq₂, .of_steps (Steps.trans harr (.one step_inLoop)) harr₂⟩
  | exit id => exact ⟨_, a₁, w₁, hq, .pass (x := .inLoop c) rfl (fun _ _ => .inl (by simp)) harr⟩
  | goto l => exact ⟨_, a₁, w₁, hq, .pass (x := .inLoop c) rfl (fun _ _ => .inl (by simp)) harr⟩
  | ret => exact ⟨_, a₁, w₁, hq, .pass (x := .inLoop c) rfl (fun _ _ => .inl (by simp)) harr⟩
  | panic ch => exact ⟨_, a₁, w₁, hq, .pass (x := .inLoop c) rfl (fun _ _ => .inl (by simp)) harr⟩
  | outgrown => exact ⟨_, a₁, w₁, hq, .pass (x := .inLoop c) rfl (fun _ _ => .inl (by simp)) harr⟩
theorem wp_of_inLoop {c : Code} {Q : Exit → Act → World → Prop} (h : InLoop P c Q a w) : (Code.loop c).wp P Q a w := fun b k cs =>
  let ⟨e, a', w', hq, harr⟩ := h b k cs
  ⟨e, a', w', hq, .of_steps (.one step_loop) harr⟩

def exOf : Ex → Exit
  | .normal => .normal
  | .exit id => .exit id
  | .ret => .ret

def Carried (F : Fm) (m : Nat) (σb : St) (cs : List CT) (y : cts cs) (a : Act) (w : World) : Prop :=
  ∃ τ G, Rel F G τ a.tmps w ∧ Rel F G σb a.tmps w ∧ BoxSlots σb τ ∧ carry m σb m τ cs = some y ∧ Calm F a

theorem mem_append_left {l m : List Nat} : ∀ {i : Nat}, i ∈ l → i ∈ app l m := by
  induction l with
  | nil => intro i h; cases h
  | cons a l ih =>
    intro i h
    simp only [app]
    rcases List.mem_cons.1 h with rfl | h
    · simp
    · exact List.mem_cons_of_mem _ (ih h)
theorem mem_append_right {l m : List Nat} : ∀ {i : Nat}, i ∈ m → i ∈ app l m := by
  induction l with
  | nil => intro i h; simpa [app] using h
  | cons a l ih => intro i h; simp only [app]; exact List.mem_cons_of_mem _ (ih h)

theorem evalCode_ok (hE : EnvOk P E) (hC : EnvCts P E F.w0 F.n0) : ∀ (c : Code) {n : Nat} {σ : St} {a : Act} {w : World} {K : Ex → Nat → St → Prop} {Q : Exit → Act → World → Prop}, (∀ d ∈ pdsts c, F.free d) → Ok F σ a w → evalCode E H c n σ K →
    (∀ e n' σ' a' w', K e n' σ' → Ok F σ' a' w' → Ext (dsts H c) σ σ' → Q (exOf e) a' w') → c.wp P Q a w := by
  intro c
  induction c with
  | skip =>
    intro n σ a w K Q hX h hs hK
    exact wp_skip (hK .normal n σ a w hs h (Ext.refl _ _))
  | region id ops dr =>
    intro n σ a w K Q hX h hs hK
    cases dr with
    | true =>
      obtain ⟨hb, hs⟩ : (drawOk ops && allB (fun q : Nat × Option Reg => Nat.ble (Nat.succ q.1) (n * 65536)) σ.regs) = true ∧ evalDraw E ops.toList (tk (preLen ops.toList) ops.toList) 0 (n * 65536) σ (fun σ' => evalSeq E (dp ops.toList (preLen ops.toList)) (n * 65536 + 256 * preLen ops.toList) σ' fun σ' => K .normal (n + 1) σ') := by
        have hs' : (bif drawOk ops && allB (fun q : Nat × Option Reg => Nat.ble (Nat.succ q.1) (n * 65536)) σ.regs then evalDraw E ops.toList (tk (preLen ops.toList) ops.toList) 0 (n * 65536) σ (fun σ' => evalSeq E (dp ops.toList (preLen ops.toList)) (n * 65536 + 256 * preLen ops.toList) σ' fun σ' => K .normal (n + 1) σ') else False) := hs
        cases hb : (drawOk ops && allB (fun q : Nat × Option Reg => Nat.ble (Nat.succ q.1) (n * 65536)) σ.regs) with
        | true => rw [hb] at hs'; exact ⟨rfl, hs'⟩
        | false => rw [hb] at hs'; exact hs'.elim
      simp only [Bool.and_eq_true] at hb
      exact draw_ok hE hC hX h hb.1 hb.2 hs fun σ' a' w' hk hok hext => hK .normal (n + 1) σ' a' w' hk hok hext
    | false =>
      exact region_ok hE hC hX h hs fun σ' a' w' hk hok hext => hK .normal (n + 1) σ' a' w' hk hok hext
  | seq c1 c2 ih1 ih2 =>
    intro n σ a w K Q hX h hs hK
    refine wp_seq (ih1 (fun d hd => hX d (mem_append_left hd)) h hs fun e n' σ' a' w' hk hok hext => ?_)
    have he1 : Ext (dsts H (.seq c1 c2)) σ σ' := hext.mono fun i hi => mem_append_left hi
    cases e with
    | normal => exact ih2 (fun d hd => hX d (mem_append_right hd)) hok hk fun e2 n2 σ2 a2 w2 hk2 hok2 hext2 => hK e2 n2 σ2 a2 w2 hk2 hok2 (he1.trans (hext2.mono fun i hi => mem_append_right hi))
    | exit id => exact hK _ n' σ' a' w' hk hok he1
    | ret => exact hK _ n' σ' a' w' hk hok he1
  | cond x c1 c2 ih1 ih2 =>
    intro n σ a w K Q hX h hs hK
    have hs : (match σ.op x with
      | .cell l => brP l (evalCode E H c1 n σ K) (evalCode E H c2 n σ K) (fun p => (p → evalCode E H c1 n σ K) ∧ (¬ p → evalCode E H c2 n σ K))
      | _ => False) := hs
    have l1 : evalCode E H c1 n σ K → c1.wp P Q a w := fun hh => ih1 (fun d hd => hX d (mem_append_left hd)) h hh fun e n' σ' a' w' hk hok hext => hK e n' σ' a' w' hk hok (hext.mono fun i hi => mem_append_left hi)
    have l2 : evalCode E H c2 n σ K → c2.wp P Q a w := fun hh => ih2 (fun d hd => hX d (mem_append_right hd)) h hh fun e n' σ' a' w' hk hok hext => hK e n' σ' a' w' hk hok (hext.mono fun i hi => mem_append_right hi)
    split at hs
    · next l hl =>
      obtain ⟨G, hR, hd⟩ := h
      have hop := op_ok hR x
      rw [hl] at hop
      simp only [slotR] at hop
      obtain ⟨b, hb, hres⟩ := brP_ok (R := fun b => (if b then c1 else c2).wp P Q a w) hop hs (fun _ hT _ => l1 hT) (fun _ hF _ => l2 hF) (fun p hS ⟨d, hv⟩ => by
        refine ⟨@decide p d, hv, ?_⟩
        cases d with
        | isTrue hp => exact l1 (hS.1 hp)
        | isFalse hp => exact l2 (hS.2 hp))
      exact wp_cond hb hres
    · exact hs.elim
  | block id c ih =>
    intro n σ a w K Q hX h hs hK
    refine wp_block (ih hX h hs fun e n' σ' a' w' hk hok hext => ?_)
    cases e with
    | normal => exact hK .normal n' σ' a' w' hk hok hext
    | exit i =>
      simp only at hk
      simp only [exOf, Exit.inBlock]
      cases hb : Nat.beq i id with
      | true =>
        rw [hb] at hk
        rw [if_pos (beq_nat hb)]
        exact hK .normal n' σ' a' w' hk hok hext
      | false =>
        rw [hb] at hk
        rw [if_neg fun e => by rw [e, Nat.beq_refl] at hb; cases hb]
        exact hK (.exit i) n' σ' a' w' hk hok hext
    | ret => exact hK .ret n' σ' a' w' hk hok hext
  | loop c ih =>
    intro n σ a w K Q hX h hs hK
    simp only [evalCode] at hs
    split at hs
    · exact hs.elim
    · next σb hbase =>
      split at hs
      · exact hs.elim
      · next y₀ hy₀ =>
        cases hok : headOk (n * 65536) (H (firstRegion c)) (dsts H (.loop c)) σb with
        | false => rw [hok] at hs; exact hs.elim
        | true =>
          rw [hok] at hs
          simp only [Bool.not_true, cond_false] at hs
          obtain ⟨G, hR, hd⟩ := h
          obtain ⟨hb, hj⟩ := base_ok hbase
          have hnm := hb.named hR
          have hRb : Rel F G σb a.tmps w := hR.weaken (fun i => by
              by_cases hi : i ∈ dsts H (.loop c)
              · exact .inl (hb.hit i hi)
              · exact .inr (hb.miss i hi)) hnm.1 (fun b c' hc' => ⟨hnm.2 b c' hc', hb.boxes b c' hc'⟩) hb.regs hb.len
          have hlen : (H (firstRegion c)).length ≤ 65536 := by
            have := hok
            simp only [headOk, Bool.and_eq_true] at this
            exact Nat.le_of_ble_eq_true this.2
          have hkept : ∀ s ∈ keptSlots (H (firstRegion c)), s ∈ dsts H (.loop c) := fun s hs => by
            have := hok
            simp only [headOk, Bool.and_eq_true] at this
            exact memN_iff.1 (allB_mem (f := fun s => memN s (dsts H (.loop c))) this.1.2 hs)
          have hext0 : Ext (dsts H (.loop c)) σ σb := ext_base hbase
          have hsize : σb.slots.length = a.tmps.size := hRb.nslots
          refine wp_of_inLoop (hs (fun y => ∀ a w, Carried F (n * 65536) σb (H (firstRegion c)) y a w → InLoop P c Q a w) (fun y hy a1 w1 hcar => ?_) a w
            ⟨σ, G, hR, hRb, fun s b hs => by
              by_cases hi : s ∈ dsts H (.loop c)
              · rw [hb.hit s hi] at hs; simp at hs
              · rw [← hb.miss s hi]; exact hs, hy₀, hd⟩)
          obtain ⟨τ, G1, hRτ, hRσ, hB, hc, hd1⟩ := hcar
          split at hy
          · exact hy.elim
          · next σh hh =>
            obtain ⟨G2, hR2⟩ := fill_head hRτ hRσ (fun b => .inl rfl) (fun b => Iff.rfl) (fun r g hg => .inl hg) (Nat.le_refl _) (by omega) hB hc hh
            have hexth : Ext (dsts H (.loop c)) σb σh := ext_head hkept hh
            refine inLoop_round (ih hX ⟨G2, hR2, hd1⟩ hy fun e n' σ' a' w' hk hok2 hext0' => ?_)
            have hext : Ext (dsts H (.loop c)) σh σ' := hext0'.mono fun i hi => mem_append_left hi
            have hall : Ext (dsts H (.loop c)) σ σ' := (hext0.trans hexth).trans hext
            cases e with
            | exit id => exact hK _ n' σ' a' w' hk hok2 hall
            | ret => exact hK _ n' σ' a' w' hk hok2 hall
            | normal =>
              simp only at hk
              split at hk
              · next y' hy' =>
                obtain ⟨G3, hR3, hd3⟩ := hok2
                unfold back at hy'
                obtain ⟨hround, hcarry⟩ := bif_some hy'
                have hsz : σb.slots.length = a'.tmps.size := by rw [← hR3.nslots, hext.ns, hexth.ns]
                obtain ⟨g1, g2⟩ := back_rel hb hnm hj hok hh hext hround hR3 hsz
                exact hk a' w' ⟨σ', G3, hR3, g1, g2, hcarry, hd3⟩
              · exact hk.elim
  | exit id =>
    intro n σ a w K Q hX h hs hK
    exact wp_exit (hK (.exit id) n σ a w hs h (Ext.refl _ _))
  | ret =>
    intro n σ a w K Q hX h hs hK
    exact wp_ret (hK .ret n σ a w hs h (Ext.refl _ _))
  | rangeFunc _ _ _ _ _ _ => intro n σ a w K Q hX h hs hK; exact hs.elim
  | scope _ _ => intro n σ a w K Q hX h hs hK; exact hs.elim
  | label _ => intro n σ a w K Q hX h hs hK; exact hs.elim
  | goto _ => intro n σ a w K Q hX h hs hK; exact hs.elim
  | refuse _ => intro n σ a w K Q hX h hs hK; exact hs.elim
end
end Go.Ev
end

section
/- The small machine is true to the model, twenty-sixth part: results, and a function's contract. -/
set_option linter.unusedVariables false
namespace Go.Ev
open Go.RowKit

section
variable {P : Program} {E : Env} {F : Fm} {G : Gh} {σ τ σ' σ0 : St} {a : Act} {w : World} {tmps : Array Value} {H : Nat → List CT}

theorem shared_ok (h : Rel F G σ tmps w) {S' : Nat → Prop} {col : Nat → Option Nat} (hsu : Suits F G w true [] S' col) : ∀ {ts : List L} {ls : List Leaf} {x : dens ts} {us : List Value} (j : Nat), leafsR (stab F G.c w) G σ w ls us → asAll σ ts ls = some x → outR S' col w true j ts x us
  | [], [], x, us, j, hl, ha => by simpa [outR, leafsR] using hl
  | [], _ :: _, x, us, j, hl, ha => by simp [asAll] at ha
  | _ :: _, [], x, us, j, hl, ha => by simp [asAll] at ha
  | .list e els :: ts, l :: ls, x, us, j, hl, ha => by
    simp only [leafsR] at hl
    obtain ⟨v, vs', rfl, h1, h2⟩ := hl
    simp only [asAll, Option.bind_eq_some_iff, Option.map_eq_some_iff] at ha
    obtain ⟨x1, ha, xr, hr, rfl⟩ := ha
    simp only [outR]
    refine ⟨v, vs', rfl, ?_, by rw [tl_mk]; exact shared_ok h hsu (j + 1) h2 hr⟩
    simp only [if_true]
    rw [hd_mk]
    exact as_in h hsu.1 (hsu.2.1 rfl) h1 ha
  | .int k :: ts, l :: ls, x, us, j, hl, ha | .bool :: ts, l :: ls, x, us, j, hl, ha | .str :: ts, l :: ls, x, us, j, hl, ha => by
    simp only [leafsR] at hl
    obtain ⟨v, vs', rfl, h1, h2⟩ := hl
    simp only [asAll, Option.bind_eq_some_iff, Option.map_eq_some_iff] at ha
    obtain ⟨x1, ha, xr, hr, rfl⟩ := ha
    simp only [outR]
    refine ⟨v, vs', rfl, ?_, by rw [tl_mk]; exact shared_ok h hsu j h2 hr⟩
    rw [hd_mk]
    exact repL_flat rfl (as_now h h1 ha)

def resRun (tmps : Array Value) : ResultVar → Sem Value
  | .tmp t => pure (tmps.getD t undef)
  | .cell a t => do loadVar t (← asAddr (tmps.getD a undef))
theorem resOf_ok (hE : EnvOk P E) (h : Rel F G σ tmps w) {agg : Bool} {rv : ResultVar} {ls : List Leaf} (hr : resOf E σ agg rv = some ls) : ∃ v cs, (resRun tmps rv).run P w = .ok v w ∧ slotV agg cs v ∧ leafsR (stab F G.c w) G σ w ls cs := by
  cases rv with
  | tmp t =>
    simp only [resOf] at hr
    have hs := h.slots t
    split at hr
    · next l hl =>
      rw [hl] at hs
      simp only [slotR] at hs
      cases agg with
      | true => cases hr
      | false =>
        injection hr with hr
        subst hr
        exact ⟨tmps.getD t undef, [tmps.getD t undef], by simp [resRun], by simp [slotV], by simp only [leafsR]; exact ⟨_, [], rfl, hs, rfl⟩⟩
    · next ls' hl =>
      rw [hl] at hs
      simp only [slotR] at hs
      obtain ⟨cs, hv, hc, _⟩ := hs
      cases agg with
      | false => cases hr
      | true =>
        injection hr with hr
        subst hr
        exact ⟨tmps.getD t undef, cs, by simp [resRun], by rw [hv]; simp [slotV], hc⟩
    · cases hr
  | cell ad t =>
    simp only [resOf] at hr
    have hs := h.slots ad
    split at hr
    · next b hb =>
      rw [hb] at hs
      simp only [slotR, leafR] at hs
      obtain ⟨_, hv⟩ := hs
      obtain ⟨i, hi, hr⟩ := Option.bind_eq_some_iff.1 hr
      obtain ⟨hag, hr⟩ := bif_some hr
      obtain ⟨c, hc, hr⟩ := Option.bind_eq_some_iff.1 hr
      obtain ⟨rfl, hlen⟩ := exact_eq hr
      obtain ⟨t', cur, b1, b2, b3, b4⟩ := h.boxes b _ hc
      obtain ⟨ti, ht1, ht2, hk⟩ := ti_agg (hE.ti hi)
      have hcl : cur.toList.length = i.ls.length := by rw [leafsR_length b3, hlen]
      have hcells : ∀ j u, cur.toList[j]? = some u → w.cell? ((⟨G.bb b, 0, none⟩ : Addr).add j) = some u := fun j u hu => by
        rw [addr_add, cell_row b1]; simpa using hu
      rcases hk with ⟨hst, fs, hu⟩ | ⟨hst, hl1, d, hu, hn1, hn2⟩
      · rw [hst] at hag
        have hag : agg = true := hag
        subst hag
        refine ⟨.agg cur, cur.toList, ?_, by simp [slotV], b3⟩
        have hlc := run_loadCells_list (P := P) w _ cur.toList hcells
        rw [hcl, ← ht2] at hlc
        simp [resRun, hv, asAddr, loadVar, isAgg, run_underlying hu, sizeOf, typeInfo, ht1, hlc]
      · rw [hst] at hag
        have hag : agg = false := by simpa using hag
        subst hag
        obtain ⟨u, hu1⟩ := List.length_eq_one_iff.1 (hcl.trans hl1)
        refine ⟨u, [u], ?_, by simp [slotV], by rw [← hu1]; exact b3⟩
        have hcell : w.cell? ⟨G.bb b, 0, none⟩ = some u := by
          have := hcells 0 u (by rw [hu1]; rfl)
          simpa [Addr.add] using this
        have hagg : (isAgg t).run P w = .ok false w := by
          simp only [isAgg, Sem.run_bind, run_underlying hu, Result.andThen_ok]
          cases d <;> first | rfl | exact absurd rfl (hn1 _) | exact absurd rfl (hn2 _ _)
        simp [resRun, hv, asAddr, loadVar, hagg, hcell]
    · cases hr

theorem out_ok (hE : EnvOk P E) (h : Rel F G σ0 tmps w) {sh : Bool} : ∀ {rs : List (Bool × List L)} {vs : List ResultVar} {x : caps (snds rs)} {σ σ' : St} (j : Nat), (∀ r g, σ.reg? r = some g → σ0.reg? r = some g) → Rel F G σ tmps w → outRes E sh σ rs vs = some (x, σ') →
    ∃ us L, (vs.mapM (resRun tmps)).run P w = .ok us w ∧ Moved σ σ' L ∧ (sh = true → L = []) ∧ ∀ S' col, Suits F G w sh L S' col → resR S' col w sh rs x j us
  | [], [], x, σ, σ', j, hs, hR, ho => by
    simp only [outRes, Option.some.injEq] at ho
    obtain ⟨_, rfl⟩ := Prod.mk.inj ho
    exact ⟨[], [], by simp, Moved.refl, fun _ => rfl, fun S' col _ => by simp [resR]⟩
  | [], _ :: _, x, σ, σ', j, hs, hR, ho => by simp [outRes] at ho
  | _ :: _, [], x, σ, σ', j, hs, hR, ho => by simp [outRes] at ho
  | p :: rs, rv :: vs, x, σ, σ', j, hs, hR, ho => by
    simp only [outRes, Option.bind_eq_some_iff, Option.map_eq_some_iff] at ho
    obtain ⟨ls, hls, x1, ha, σ1, hm, ⟨xr, σ2⟩, hrest, hx⟩ := ho
    simp only [Prod.mk.injEq] at hx
    obtain ⟨rfl, rfl⟩ := hx
    obtain ⟨v, cs, hrun, hsl, hleafs⟩ := resOf_ok hE hR hls
    obtain ⟨L1, hM1, hsh1, hout1⟩ : ∃ L, Moved σ σ1 L ∧ (sh = true → L = []) ∧ ∀ S' col, Suits F G w sh L S' col → outR S' col w sh j p.2 x1 cs := by
      cases sh with
      | true =>
        have : σ = σ1 := by simpa using hm
        subst this
        exact ⟨[], Moved.refl, fun _ => rfl, fun S' col hsu => shared_ok hR hsu j hleafs ha⟩
      | false =>
        obtain ⟨L, hL, _, hout⟩ := moveAll_ok hR j hleafs ha (fun _ _ h => h) (by simpa using hm)
        exact ⟨L, hL, by simp, hout⟩
    have hR1 : Rel F G σ1 tmps w := by
      cases sh with
      | true =>
        have : σ = σ1 := by simpa using hm
        subst this
        exact hR
      | false => exact (moveAll_rel hR (by simpa using hm)).1
    obtain ⟨us, L2, hrun2, hM2, hsh2, hout2⟩ := out_ok hE h (j + 16) (fun r g hg => hs r g (hM1.sub r g hg)) hR1 hrest
    refine ⟨v :: us, L1 ++ L2, ?_, hM1.trans hM2, fun hh => by rw [hsh1 hh, hsh2 hh]; rfl, fun S' col hsu => ?_⟩
    · simp [List.mapM_cons, hrun, hrun2]
    · simp only [resR]
      exact ⟨v, us, cs, rfl, by rw [chd_cmk]; exact hout1 S' col hsu.left, .inr hsl, by rw [ctl_cmk]; exact hout2 S' col hsu.right⟩
end
end Go.Ev
end

section
/- The small machine is true to the model, last part: a function's contract out of what it comes to. -/
set_option linter.unusedVariables false
namespace Go.Ev
open Go.RowKit

section
variable {P : Program} {E : Env} {F : Fm} {G : Gh} {σ : St} {a : Act} {w : World} {tmps : Array Value} {H : Nat → List CT} {S T : Nat → Prop}

theorem ro_sub (hST : ∀ b, S b → T b) {p : Col} {e : TypeId} {sz n : Nat} {v : Value} {cs : List Value} (h : roRow w S p e sz n v cs) : roRow w T p e sz n v cs := ro_mono (fun b hb => ⟨hST b hb, rfl⟩) h
theorem enter_caps (hST : ∀ b, S b → T b) : ∀ {cs : List (List L)} {x : caps cs} {vs : List Value}, capsR S w cs x vs → leafsR T G σ w (capSlots cs x) vs
  | [], _, _, h => by simpa [capsR, capSlots, leafsR] using h
  | t :: ts, x, _, h => by
    simp only [capsR] at h
    obtain ⟨v, vs', rfl, ⟨ad, cs, hv, hs, hc, hr⟩, h2⟩ := h
    simp only [capSlots, leafsR, leafR]
    exact ⟨v, vs', rfl, ⟨ad, cs, by rw [addr_zero]; exact hv, hST _ hs, hc, repLs_map (fun _ _ _ _ _ _ _ => ro_sub hST) hr⟩, enter_caps hST h2⟩
theorem leafs_length : ∀ {ls : List L} (x : dens ls), (leafs ls x).length = ls.length
  | [], _ => rfl
  | t :: ts, x => by simp [leafs, leafs_length (tl x)]
theorem enter_ok (hST : ∀ b, S b → T b) : ∀ {ps : List PT} {x : pts ps} {vs : List Value}, argsR S w ps x vs → slotsR T G σ w (enter ps x) vs
  | [], _, _, h => by simpa [argsR, enter, slotsR] using h
  | .v agg m ts :: ps, x, _, h => by
    simp only [argsR] at h
    obtain ⟨v, vs', rfl, ⟨cs, hr, hsl⟩, h2⟩ := h
    have hr' : repLs (roRow w T) ts [] 0 0 (phd x) cs := repLs_map (fun _ _ _ _ _ _ _ => ro_sub hST) hr
    have hl := leafsR_of_rep (G := G) (σ := σ) hr'
    simp only [enter, slotsR]
    refine ⟨v, vs', rfl, ?_, enter_ok hST h2⟩
    cases agg with
    | true =>
      simp only [slotV, if_true] at hsl
      simp only [cellOrAgg, cond_true, slotR]
      exact ⟨cs, hsl, hl, repLs_one roRow_one hr'⟩
    | false =>
      simp only [slotV, Bool.false_eq_true, if_false] at hsl
      subst hsl
      have h1 : (leafs ts (phd (t := .v false m ts) x)).length = 1 := (leafs_length (ls := ts) (phd (t := .v false m ts) x)).trans (by simpa using (repLs_length hr').symm)
      obtain ⟨l, hl1⟩ := List.length_eq_one_iff.1 h1
      simp only [cellOrAgg, cond_false]
      have hl1' : leafs ts (phd (t := .v false m ts) x) = [l] := hl1
      rw [hl1']
      simp only [slotR]
      rw [hl1] at hl
      simp only [leafsR] at hl
      obtain ⟨v', vs'', e, h3, _⟩ := hl
      have : v = v' := by simpa using (List.cons.inj e).1
      rw [this]; exact h3
  | .p io ts :: ps, x, _, h => by
    simp only [argsR] at h
    obtain ⟨v, vs', rfl, ⟨ad, cs, hv, hs, hc, hr⟩, h2⟩ := h
    simp only [enter, slotsR, slotR, leafR]
    exact ⟨v, vs', rfl, ⟨ad, cs, by rw [addr_zero]; exact hv, hST _ hs, hc, repLs_map (fun _ _ _ _ _ _ _ => ro_sub hST) hr⟩, enter_ok hST h2⟩
  | .c f cs :: ps, x, _, h => by
    simp only [argsR] at h
    obtain ⟨v, vs', rfl, ⟨cvs, hv, hc⟩, h2⟩ := h
    simp only [enter, slotsR, slotR, leafR]
    exact ⟨v, vs', rfl, ⟨cvs, hv, enter_caps hST hc⟩, enter_ok hST h2⟩

theorem pad_length {α : Type} (d : α) : ∀ (n : Nat) (l : List α), (pad d n l).length = max n l.length
  | 0, l => by simp [pad]
  | n + 1, [] => by simp [pad, pad_length d n]
  | n + 1, b :: l => by simp [pad, pad_length d n]
theorem pad_nth {α : Type} (d : α) : ∀ (n : Nat) (l : List α) (i : Nat), nth d (pad d n l) i = nth d l i
  | 0, l, i => rfl
  | n + 1, [], 0 => rfl
  | n + 1, [], i + 1 => by
    have := pad_nth d n [] i
    simp only [pad, nth]
    exact this
  | n + 1, b :: l, 0 => rfl
  | n + 1, b :: l, i + 1 => by simp only [pad, nth]; exact pad_nth d n l i
theorem slotsR_get : ∀ {ss : List Slot} {vs : List Value}, slotsR T G σ w ss vs → ∀ i, slotR T G σ w (nth (.cell .junk) ss i) (vs.getD i undef)
  | [], _, _, i => by simp only [nth, slotR, leafR]
  | s :: ss, _, h, 0 => by
    simp only [slotsR] at h
    obtain ⟨v, vs', rfl, h1, _⟩ := h
    exact h1
  | s :: ss, _, h, i + 1 => by
    simp only [slotsR] at h
    obtain ⟨v, vs', rfl, _, h2⟩ := h
    simpa [nth] using slotsR_get h2 i

theorem ct_ok (hE : EnvOk P E) (hC : EnvCts P E w w.heap.size) {fn : Func} {c : Ct} (hf : P.funcs[c.f]? = some fn) (hname : (fn.name == "runtime.NumGoroutine") = false)
    (hev : ∀ x, c.pre x → evalFn E H fn c.ps c.rs c.shared x fun r => r = c.F x) : CtAt P c w := by
  obtain ⟨f, ps, rs, shared, pre, Fn⟩ := c
  intro vals x S hS hargs hpre
  have h0 := hev x hpre
  unfold evalFn at h0
  obtain ⟨body, hbody⟩ : ∃ b, fn.body = some b := by
    cases hb : fn.body with
    | none => rw [hb] at h0; exact h0.elim
    | some b => exact ⟨b, rfl⟩
  refine ⟨⟨fn, hf, hname, by rw [hbody]; rfl⟩, ?_⟩
  rw [hbody] at h0
  simp only at h0
  refine calls_of_wp hf hbody ?_
  -- the frame
  let F : Fm := { w0 := w, S := S }
  let G : Gh := ⟨fun _ => none, fun _ => 0, fun _ => undef⟩
  have hent := enter_ok (G := G) (σ := { slots := pad (.cell .junk) fn.ntmps (enter ps x), boxes := [], regs := [] }) (T := stab F G.c w) (fun b hb => .inl hb) hargs
  have hlen : vals.size = (enter ps x).length := by
    have := slotsR_length hent
    simpa using this
  have hR : Rel F G { slots := pad (.cell .junk) fn.ntmps (enter ps x), boxes := [], regs := [] } (vals ++ Array.replicate (fn.ntmps - vals.size) undef) w := {
    below := BelowO.refl _ _
    hS := ⟨Nat.le_refl _, fun b hb => hb.elim, fun b hb => ⟨hS b hb, fun h => h⟩⟩
    col := fun b hb => absurd rfl hb
    boxes := fun b c hc => by cases hc
    regs := fun r g hg => by cases hg
    slots := fun i => by
      rw [pad_nth]
      have := slotsR_get hent i
      have e : (vals ++ Array.replicate (fn.ntmps - vals.size) undef).getD i undef = vals.toList.getD i undef := by
        rw [Array.getD_eq_getD_getElem?, List.getD_eq_getElem?_getD, Array.getElem?_append, Array.getElem?_toList]
        split
        · rfl
        · next hi =>
          have : vals[i]? = none := Array.getElem?_eq_none (by omega)
          rw [this, Array.getElem?_replicate]
          split <;> rfl
      rw [e]; exact this
    nslots := by
      rw [pad_length, ← hlen]
      simp only [Array.size_append, Array.size_replicate]
      omega }
  refine evalCode_ok (F := F) hE hC body (fun d _ p hp => by cases hp) ⟨G, hR, rfl, fun p hp => by cases hp⟩ h0 fun e n' σ' a' w' hk hok hext => ?_
  obtain ⟨G', hR', hd⟩ := hok
  have hend : (match outRes E shared σ' rs fn.results.toList with
      | none => False
      | some (r, _) => r = Fn x) → a'.defers = [] ∧ ∃ v, (results fn a'.tmps).run P w' = .ok v w' ∧ (fun e w' => ∃ vs v col, e = Ending.returned v ∧ Below w.heap.size w w' ∧ retV vs v ∧ (∀ b, col b ≠ none → w.heap.size ≤ b ∧ b < w'.heap.size) ∧
        resR (fun b => S b ∨ (w.heap.size ≤ b ∧ b < w'.heap.size ∧ col b = none)) col w' shared rs (Fn x) 0 vs) (Ending.returned v) w' := fun hm => by
    split at hm
    · exact hm.elim
    · next r τ hout =>
      subst hm
      obtain ⟨us, L, hrun, hM, hsh, hres⟩ := out_ok hE hR' 0 (fun _ _ h => h) hR' hout
      let col : Nat → Option Nat := fun b => match G'.c b with
        | some [(r, 0)] => look L r
        | _ => none
      have hcol : ∀ b, col b ≠ none → G'.c b ≠ none := fun b hb hc => by
        simp only [col, hc] at hb
        exact hb rfl
      refine ⟨hd.1, (if h : us.length = 1 then us[0] else .tuple us.toArray), ?_, us, _, col, rfl, hR'.below.below, ?_, fun b hb => ⟨(hR'.col b (hcol b hb)).1.resolve_right fun h => h, (hR'.col b (hcol b hb)).2⟩, hres _ col ⟨fun b hb => ?_, fun hs b hb => ?_, fun p hp b hb => ?_⟩⟩
      · have e : fn.results.mapM (resRun a'.tmps) = List.toArray <$> fn.results.toList.mapM (resRun a'.tmps) := Array.mapM_eq_mapM_toList
        have hr2 : (fn.results.mapM (resRun a'.tmps)).run P w' = .ok us.toArray w' := by
          rw [e]
          simp [hrun]
        have key : ∀ f : ResultVar → Sem Value, (∀ rv, f rv = resRun a'.tmps rv) → (fn.results.mapM f).run P w' = .ok us.toArray w' := fun f hf => by
          rw [show f = resRun a'.tmps from funext hf]; exact hr2
        unfold results
        rw [Sem.run_bind, key _ (fun rv => by cases rv <;> rfl)]
        simp only [Result.andThen_ok, Sem.run_pure, List.size_toArray]
        by_cases h1 : us.length = 1 <;> simp [h1]
      · unfold retV
        by_cases h1 : us.length = 1
        · left
          rw [dif_pos h1]
          obtain ⟨u, rfl⟩ := List.length_eq_one_iff.1 h1
          rfl
        · right
          rw [dif_neg h1]
          exact ⟨h1, rfl⟩
      · rcases hb with hb | hb
        · exact .inl hb
        · refine .inr ⟨hb.1.resolve_right fun h => h, hb.2.1, ?_⟩
          simp only [col, hb.2.2]
      · have h1 := hR'.col b hb
        refine .inr ⟨h1.1.resolve_right fun h => h, h1.2, ?_⟩
        simp only [col, hsh hs]
        split <;> rfl
      · simp only [col, hb]
        exact look_pairs hM.once hp
  cases e with
  | normal => exact hend hk
  | exit id => exact hk.elim
  | ret => exact hend hk
end
end Go.Ev
end

section
/- The small machine is true to the model: the contract of a function that writes the rows that it is handed. -/
set_option linter.unusedVariables false
namespace Go.Ev
open Go.RowKit

section
variable {P : Program} {E : Env} {F : Fm} {G G' : Gh} {σ σ' : St} {a : Act} {w w' : World} {tmps : Array Value} {H : Nat → List CT} {S T : Nat → Prop}

end
end Go.Ev
end

section
/- What is read as data stands in memory as typed values: by a check on the type table alone. -/
set_option linter.unusedVariables false
namespace Go.Ev
open Go.RowKit

mutual
def wf : (t : L) → t.den → Prop
  | .int k, x => (Lit.int k x).wf = true
  | .bool, _ => True
  | .str, s => ByteArray.size s ≤ maxLen
  | .list _ ls, xs => List.length (α := L.dens ls) xs ≤ maxLen ∧ ∀ (i : Nat) (x : L.dens ls), gt (α := L.dens ls) xs i = some x → wfs ls x
def wfs : (ls : List L) → L.dens ls → Prop
  | [], _ => True
  | [t], x => wf t x
  | t :: t' :: ts, x => wf t x.1 ∧ wfs (t' :: ts) x.2
end
theorem wfs_cons {t : L} {ts : List L} {x : dens (t :: ts)} : wfs (t :: ts) x ↔ wf t (hd x) ∧ wfs ts (tl x) := by
  cases ts with
  | nil => simp [wfs, hd]
  | cons t' ts => simp [wfs, hd, tl]
def dapp : {l m : List L} → dens l → dens m → dens (l ++ m)
  | [], _, _, y => y
  | t :: ts, _, x, y => mk (hd x) (dapp (tl x) y)
theorem repLs_app {R : Rw} : ∀ {l m : List L} {p : Col} {i o : Nat} {x : dens l} {y : dens m} {cs ds : List Value}, repLs R l p i o x cs → repLs R m p i (o + l.length) y ds → repLs R (l ++ m) p i o (dapp x y) (cs ++ ds)
  | [], m, p, i, o, x, y, cs, ds, h, h' => by
    simp only [repLs] at h
    subst h
    simpa [dapp] using h'
  | t :: ts, m, p, i, o, x, y, cs, ds, h, h' => by
    obtain ⟨v, cs', rfl, h1, h2⟩ := repLs_cons.1 h
    refine repLs_cons.2 ⟨v, cs' ++ ds, rfl, ?_, ?_⟩
    · simp only [dapp, hd_mk]; exact h1
    · simp only [dapp, tl_mk]
      exact repLs_app h2 (by rwa [List.length_cons, show o + (ts.length + 1) = o + 1 + ts.length by omega] at h')
theorem wfs_app : ∀ {l m : List L} {x : dens l} {y : dens m}, wfs l x → wfs m y → wfs (l ++ m) (dapp x y)
  | [], _, _, _, _, h => h
  | t :: ts, m, x, y, h, h' => by
    obtain ⟨h1, h2⟩ := wfs_cons.1 h
    refine wfs_cons.2 ⟨?_, ?_⟩
    · simp only [dapp, hd_mk]; exact h1
    · simp only [dapp, tl_mk]; exact wfs_app h2 h'

def fieldsOp (P : Program) (f : TypeId → List L → Bool) : List Field → Nat → List L → Bool
  | [], _, [] => true
  | [], _, _ :: _ => false
  | fd :: fs, o, ls => Nat.beq fd.offset o && f fd.type (ls.take (P.cellsOf fd.type)) && fieldsOp P f fs (o + (ls.take (P.cellsOf fd.type)).length) (ls.drop (P.cellsOf fd.type))
def opB (P : Program) : Nat → TypeId → List L → Bool
  | 0, _, _ => false
  | n + 1, t, ls => Nat.beq (P.cellsOf t) ls.length && (match P.underlying t with
    | some (.int k) => (match ls with
      | [.int k'] => kEq k k'
      | _ => false)
    | some .bool => (match ls with
      | [.bool] => true
      | _ => false)
    | some .string => (match ls with
      | [.str] => true
      | _ => false)
    | some (.slice e) => (match ls with
      | [.list e' ls'] => Nat.beq e e' && opB P n e ls'
      | _ => false)
    | some (.struct fs) => fieldsOp P (opB P n) fs.toList 0 ls
    | _ => false)

structure Opn (P : Program) (t : TypeId) (ls : List L) : Prop where
  size : P.cellsOf t = ls.length
  op : ∀ {H : Type} {enc : TypeId × Value → H} {w : World} {base : Nat} {spare : Nat → Bool} {held : Bool} (fuel : Nat) (cs : List Value) (x : DataW H × List MemPlace),
    DataW.trod enc P w base spare held fuel t cs = some x → ∃ y : dens ls, repLs (roRow w (now w)) ls [] 0 0 y cs ∧ wfs ls y
theorem list_choose {α : Type} {n : Nat} {q : Nat → α → Prop} (h : ∀ i, i < n → ∃ y, q i y) : ∃ ys : List α, ys.length = n ∧ ∀ i y, ys[i]? = some y → q i y := by
  induction n with
  | zero => exact ⟨[], rfl, fun i y hy => by simp at hy⟩
  | succ n ih =>
    obtain ⟨ys, hl, hys⟩ := ih (fun i hi => h i (by omega))
    obtain ⟨y, hy⟩ := h n (by omega)
    refine ⟨ys ++ [y], by simp [hl], fun i z hz => ?_⟩
    by_cases hi : i < ys.length
    · rw [List.getElem?_append_left hi] at hz
      exact hys i z hz
    · rw [List.getElem?_append_right (by omega)] at hz
      by_cases he : i - ys.length = 0
      · rw [he] at hz
        simp at hz
        obtain rfl : i = n := by omega
        exact hz ▸ hy
      · obtain ⟨m, hm⟩ : ∃ m, i - ys.length = m + 1 := ⟨i - ys.length - 1, by omega⟩
        rw [hm] at hz
        simp at hz
theorem cell_now {w : World} {a : Addr} {u : Value} (h : w.cell? a = some u) : now w a.block := by
  unfold World.cell? at h
  unfold now
  rcases Nat.lt_or_ge a.block w.heap.size with h1 | h1
  · exact h1
  · rw [Array.getElem?_eq_none h1] at h
    simp at h

theorem fields_ok {P : Program} {f : TypeId → List L → Bool} (hf : ∀ t ls, f t ls = true → Opn P t ls) : ∀ {fs : List Field} {o : Nat} {ls : List L}, fieldsOp P f fs o ls = true →
    ∀ {H : Type} {enc : TypeId × Value → H} {w : World} {base : Nat} {spare : Nat → Bool} {held : Bool} (fuel : Nat) (cs : List Value), cs.length = o + ls.length →
    (∀ (i : Nat) (f : Field), fs[i]? = some f → ∃ z : DataW H × List MemPlace, DataW.trod enc P w base spare held fuel f.type ((cs.drop f.offset).take (P.cellsOf f.type)) = some z) → ∃ y : dens ls, repLs (roRow w (now w)) ls [] 0 o y (cs.drop o) ∧ wfs ls y
  | [], o, [], _ => by
    intro fuel cs hl hz
    exact ⟨(), by simp only [repLs]; apply List.eq_nil_of_length_eq_zero; rw [List.length_drop, hl]; simp, trivial⟩
  | [], o, _ :: _, h => by simp [fieldsOp] at h
  | fd :: fs, o, ls, h => by
    intro fuel cs hl hz
    rename_i H enc w base spare held
    simp only [fieldsOp, Bool.and_eq_true] at h
    obtain ⟨⟨h1, h2⟩, h3⟩ := h
    have ho := beq_nat h1
    have hO := hf _ _ h2
    obtain ⟨z, hz0⟩ := hz 0 fd rfl
    have hlen : (ls.take (P.cellsOf fd.type)).length + (ls.drop (P.cellsOf fd.type)).length = ls.length := by rw [← List.length_append, List.take_append_drop]
    rw [ho] at hz0
    obtain ⟨y, hy, hF⟩ := hO.op _ _ _ hz0
    obtain ⟨y', hy', hF'⟩ := fields_ok hf h3 fuel cs (by omega) (fun i g hg => hz (i + 1) g (by simpa using hg))
    have e : ls.take (P.cellsOf fd.type) ++ ls.drop (P.cellsOf fd.type) = ls := List.take_append_drop _ _
    have hcs : cs.drop o = (cs.drop o).take (P.cellsOf fd.type) ++ cs.drop (o + (ls.take (P.cellsOf fd.type)).length) := by
      rw [← hO.size, ← List.drop_drop, List.take_append_drop]
    have hall : ∃ y : dens (ls.take (P.cellsOf fd.type) ++ ls.drop (P.cellsOf fd.type)), repLs (roRow w (now w)) (ls.take (P.cellsOf fd.type) ++ ls.drop (P.cellsOf fd.type)) [] 0 o y (cs.drop o) ∧ wfs _ y :=
      ⟨dapp y y', by rw [hcs]; exact repLs_app (ros_off hy) hy', wfs_app hF hF'⟩
    rwa [e] at hall

theorem opn_of {P : Program} : ∀ {n : Nat} {t : TypeId} {ls : List L}, opB P n t ls = true → Opn P t ls
  | 0, _, _, h => by simp [opB] at h
  | n + 1, t, ls, h => by
    simp only [opB, Bool.and_eq_true] at h
    obtain ⟨hsz, h⟩ := h
    have hsz := beq_nat hsz
    split at h
    · next k hu =>
      split at h
      · next k' =>
        have e := kEq_eq h
        subst e
        refine ⟨hsz, fun fuel cs x hx => ?_⟩
        obtain ⟨m, rfl, _, hw⟩ := DataW.trod_int hu hx
        exact ⟨m, by simp only [repLs, repL]; exact ⟨_, rfl, rfl⟩, by simpa only [wfs, wf] using hw⟩
      · cases h
    · next hu =>
      split at h
      · refine ⟨hsz, fun fuel cs x hx => ?_⟩
        obtain ⟨m, rfl, _⟩ := DataW.trod_bool hu hx
        exact ⟨m, by simp only [repLs, repL]; exact ⟨_, rfl, rfl⟩, by simp only [wfs, wf]⟩
      · cases h
    · next hu =>
      split at h
      · refine ⟨hsz, fun fuel cs x hx => ?_⟩
        obtain ⟨m, rfl, _, hs⟩ := DataW.trod_string hu hx
        exact ⟨m, by simp only [repLs, repL]; exact ⟨_, rfl, rfl⟩, by simpa only [wfs, wf] using hs⟩
      · cases h
    · next e hu =>
      split at h
      · next e' els _ =>
        simp only [Bool.and_eq_true] at h
        have e1 := beq_nat h.1
        subst e1
        have he := opn_of h.2
        refine ⟨hsz, fun {H enc w base spare held} fuel cs x hx => ?_⟩
        rcases Deep.open_slice hu hx with ⟨rfl, _⟩ | ⟨a, len, cap, m, n', D, Pl, rfl, hb, hl, hm, hmm, _, hel⟩
        · exact ⟨([] : List (dens els)), by simp only [repLs]; exact ⟨_, rfl, nil_rep ro_nil⟩, by simp [wfs, wf, gt]⟩
        · have hle : len ≤ m := by rw [hmm]; split <;> omega
          obtain ⟨ys, hlen, hys⟩ := list_choose (n := len) (q := fun i (y : dens els) => wfs els y ∧ ∃ cs', w.cells? base (a.add (i * P.cellsOf e)) (P.cellsOf e) = some cs' ∧ repLs (roRow w (now w)) els [] 0 0 y cs') (fun i hi => by
            obtain ⟨cs', h1, h2⟩ := hel i (by omega)
            obtain ⟨y, hy, hF⟩ := he.op _ _ _ h2
            exact ⟨y, hF, cs', h1, hy⟩)
          subst hlen
          have hcell : ∀ i y, ys[i]? = some y → ∃ cs', cs'.length = els.length ∧ repLs (roRow w (now w)) els [] 0 0 y cs' ∧ ∀ j u, cs'[j]? = some u → w.cell? (a.add (i * els.length + j)) = some u := fun i y hy => by
            obtain ⟨_, cs', h1, h2⟩ := hys i y hy
            obtain ⟨_, h4⟩ := World.cells?_some h1
            have h3 := repLs_length h2
            refine ⟨cs', h3, h2, fun j u hu2 => ?_⟩
            have hj : j < cs'.length := (List.getElem?_eq_some_iff.mp hu2).1
            rw [← he.size, ← Deep.add_add]
            rw [h4.2 j (by rw [he.size]; omega), hu2]
          -- all cells
          obtain ⟨all, hal, hac⟩ := list_choose (n := ys.length * els.length) (q := fun j (u : Value) => w.cell? (a.add j) = some u) (fun j hj => by
            have hp : 0 < els.length := by
              rcases Nat.eq_zero_or_pos els.length with h0 | h0
              · rw [h0] at hj; simp at hj
              · exact h0
            have hd : j / els.length < ys.length := Nat.div_lt_of_lt_mul (by rw [Nat.mul_comm]; exact hj)
            obtain ⟨cs', c1, _, c3⟩ := hcell (j / els.length) _ (List.getElem?_eq_getElem hd)
            have hmod : j % els.length < cs'.length := by rw [c1]; exact Nat.mod_lt _ hp
            refine ⟨cs'[j % els.length], ?_⟩
            have := c3 (j % els.length) _ (List.getElem?_eq_getElem hmod)
            rwa [show j / els.length * els.length + j % els.length = j from by rw [Nat.mul_comm]; exact Nat.div_add_mod j _] at this)
          refine ⟨ys, ?_, ?_⟩
          · simp only [repLs, repL]
            refine ⟨_, rfl, all, ⟨some a, cap, rfl, hl, fun hpos => ⟨a, rfl, ?_, fun j u hu2 => hac j u hu2⟩⟩, hal, fun i y hy => ?_⟩
            · have h0 : 0 < all.length := by omega
              have := cell_now (hac 0 _ (List.getElem?_eq_getElem h0))
              rwa [block_of_add] at this
            · obtain ⟨cs', c1, c2, c3⟩ := hcell i y hy
              have hi := (List.getElem?_eq_some_iff.1 (show ys[i]? = some y from hy)).1
              have hseg : (all.drop (i * els.length)).take els.length = cs' := by
                apply List.ext_getElem?
                intro j
                rw [List.getElem?_take]
                split
                · next hj =>
                  have hbnd : i * els.length + j < all.length := by
                    rw [hal]
                    have := Nat.mul_le_mul_right els.length hi
                    rw [Nat.succ_mul] at this
                    omega
                  have hj' : j < cs'.length := by omega
                  rw [List.getElem?_drop, List.getElem?_eq_getElem hbnd, List.getElem?_eq_getElem hj']
                  have h1 := hac _ _ (List.getElem?_eq_getElem hbnd)
                  have h2 := c3 j _ (List.getElem?_eq_getElem hj')
                  rw [h1] at h2
                  exact h2
                · next hj => rw [List.getElem?_eq_none (by omega)]
              rw [hseg]
              exact ros_path c2
          · simp only [wfs, wf]
            exact ⟨by simp only [maxLen]; simp only [maxLen] at hm; omega, fun i y hy => (hys i y hy).1⟩
      · cases h
    · next fs hu =>
      refine ⟨hsz, fun {H enc w base spare held} fuel cs x hx => ?_⟩
      obtain ⟨xs, m, _, _, hl, hxs, hf⟩ := DataW.trod_struct hu hx
      obtain ⟨y, hy, hF⟩ := fields_ok (fun t ls h => opn_of h) h (enc := enc) (w := w) (base := base) (spare := spare) (held := held) m cs (by omega) (fun i f hi => by
        have hi' : fs[i]? = some f := by rw [← Array.getElem?_toList]; exact hi
        have hlt : i < xs.length := by rw [hxs]; exact (Array.getElem?_eq_some_iff.mp hi').1
        exact ⟨_, (hf i f hi').trans (List.getElem?_eq_getElem hlt)⟩)
      exact ⟨y, by simpa using hy, hF⟩
    · cases h
end Go.Ev
end

section
/- Shapes that many functions come to: the sizing, turning and comparing of slices; plain laws on them. -/
set_option linter.unusedVariables false
namespace Go.Ev

def sumN : List Nat → Nat
  | [] => 0
  | a :: l => a + sumN l
mutual
def cost : (t : L) → t.den → Nat
  | .int _, _ => 0
  | .bool, _ => 0
  | .str, s => ByteArray.size s
  | .list _ ls, xs => List.length (α := L.dens ls) xs + sumN (List.map (α := L.dens ls) (costs ls) xs)
def costs : (ls : List L) → L.dens ls → Nat
  | [], _ => 0
  | [t], x => cost t x
  | t :: t' :: ts, x => cost t x.1 + costs (t' :: ts) x.2
end
theorem wrapI (n : Int) (h0 : -9223372036854775808 ≤ n) (h1 : n < 9223372036854775808) : IntKind.i64.wrap n = n := by
  rw [IntKind.wrap_i64]; omega
def capI : Int := 1048576
def leftI (c : Nat) (k : Int) : Int := if k < (c : Int) then -1 else k - (c : Int)

def szS {α : Type} (d : α) (P : α → Int → Prop) (F : α → Int → Int) (x : List α) (k : Int) (Q : Int → Prop) : Prop :=
  (IntKind.i64.wrap (k - (x.length : Int)) < 0 → Q (-1)) ∧
  (¬ IntKind.i64.wrap (k - (x.length : Int)) < 0 → ∀ Lp : Int × Int → Prop,
    (∀ y : Int × Int, ((y.2 < (x.length : Int) → 0 ≤ y.2 ∧ y.2 < (x.length : Int) ∧ P (x.getD y.2.toNat d) y.1 ∧
        ((F (x.getD y.2.toNat d) y.1 < 0 → Q (-1)) ∧ (¬ F (x.getD y.2.toNat d) y.1 < 0 → Lp (F (x.getD y.2.toNat d) y.1, IntKind.i64.wrap (y.2 + 1))))) ∧
      (¬ y.2 < (x.length : Int) → Q y.1)) → Lp y) → Lp (IntKind.i64.wrap (k - (x.length : Int)), 0))
theorem szS_holds {α : Type} (d : α) (c : α → Nat) (W : α → Prop) (xs : List α) (k : Int) (hlen : xs.length ≤ maxLen) (hw : ∀ (i : Nat) (y : α), gt xs i = some y → W y) (h0 : 0 ≤ k) (h1 : k ≤ capI) :
    szS d (fun y k => W y ∧ 0 ≤ k ∧ k ≤ capI) (fun y k => leftI (c y) k) xs k (fun r => r = leftI (xs.length + sumN (xs.map c)) k) := by
  simp only [maxLen] at hlen
  simp only [capI] at h1
  have hwr : IntKind.i64.wrap (k - (xs.length : Int)) = k - (xs.length : Int) := wrapI _ (by omega) (by omega)
  refine ⟨fun h => ?_, fun h Lp hL => ?_⟩
  · rw [hwr] at h
    unfold leftI
    rw [if_pos (by omega)]
  · rw [hwr] at h ⊢
    have key : ∀ (m i : Nat) (k' : Int), i + m = xs.length → 0 ≤ k' → k' + (sumN ((xs.take i).map c) : Int) = k - (xs.length : Int) → Lp (k', (i : Int)) := by
      intro m
      induction m with
      | zero =>
        intro i k' hi hk0 hk1
        have hi' : i = xs.length := by omega
        refine hL _ ⟨fun hlt => ?_, fun _ => ?_⟩
        · simp only at hlt; omega
        · rw [hi', List.take_length] at hk1
          simp only [leftI]
          rw [if_neg (by omega)]
          omega
      | succ m ih =>
        intro i k' hi hk0 hk1
        have hlt : i < xs.length := by omega
        have hget : xs.getD i d = xs[i] := by rw [List.getD_eq_getElem?_getD, List.getElem?_eq_getElem hlt]; rfl
        have htake : sumN ((xs.take (i + 1)).map c) = sumN ((xs.take i).map c) + c xs[i] := by
          rw [List.take_add_one, List.getElem?_eq_getElem hlt]
          simp only [Option.toList_some, List.map_append, List.map_cons, List.map_nil]
          exact sum_snoc _ _
        have hall : sumN ((xs.take (i + 1)).map c) ≤ sumN (xs.map c) := sum_take _ _
        refine hL _ ⟨fun _ => ⟨by simp only; omega, by simp only; omega, ?_, ?_⟩, fun hn => ?_⟩
        · simp only [Int.toNat_natCast, hget, capI]
          exact ⟨hw i _ (List.getElem?_eq_getElem hlt), hk0, by omega⟩
        · simp only [Int.toNat_natCast, hget, leftI]
          by_cases hc : k' < (c xs[i] : Int)
          · rw [if_pos hc]
            refine ⟨fun _ => ?_, fun h => by omega⟩
            rw [if_pos (by omega)]
          · rw [if_neg hc]
            refine ⟨fun h => by omega, fun _ => ?_⟩
            rw [wrapI _ (by omega) (by omega)]
            exact ih (i + 1) _ (by omega) (by omega) (by omega)
        · simp only at hn; omega
    exact key xs.length 0 _ (by omega) (by omega) (by simp [sumN])
where
  sum_snoc : ∀ (l : List Nat) (a : Nat), sumN (l ++ [a]) = sumN l + a
    | [], a => by simp [sumN]
    | b :: l, a => by simp only [List.cons_append, sumN, sum_snoc l a]; omega
  sum_take {c : α → Nat} : ∀ (l : List α) (i : Nat), sumN ((l.take i).map c) ≤ sumN (l.map c)
    | [], i => by simp
    | a :: l, 0 => by simp [sumN]
    | a :: l, i + 1 => by simp only [List.take_succ_cons, List.map_cons, sumN]; have := sum_take (c := c) l i; omega

def eqS {α : Type} (d : α) (P : α → α → Prop) (F : α → α → Bool) (x y : List α) (Q : Bool → Prop) : Prop :=
  ((x.length : Int) ≠ (y.length : Int) → Q false) ∧ (¬ (x.length : Int) ≠ (y.length : Int) → ∀ Lp : Int → Prop,
    (∀ i : Int, ((i < (x.length : Int) → 0 ≤ i ∧ i < (x.length : Int) ∧ 0 ≤ i ∧ i < (y.length : Int) ∧ P (x.getD i.toNat d) (y.getD i.toNat d) ∧
        ((¬ F (x.getD i.toNat d) (y.getD i.toNat d) = true → Q false) ∧ (¬ ¬ F (x.getD i.toNat d) (y.getD i.toNat d) = true → Lp (IntKind.i64.wrap (i + 1))))) ∧
      (¬ i < (x.length : Int) → Q true)) → Lp i) → Lp 0)
theorem eqS_holds {α : Type} (d : α) (P : α → α → Prop) (F : α → α → Bool) (x y : List α) (hlen : x.length ≤ maxLen) (hP : ∀ (i : Nat) (a b : α), gt x i = some a → P a b) (hF : ∀ a b, F a b = true ↔ a = b) {R : Bool} (hR : R = true ↔ x = y) :
    eqS d P F x y (fun r => r = R) := by
  simp only [maxLen] at hlen
  have hf : ∀ {p : Prop}, (p → ¬ x = y) → p → false = R := fun h hp => by
    cases R with
    | false => rfl
    | true => exact absurd (hR.1 rfl) (h hp)
  refine ⟨fun h => hf (p := True) (fun _ e => h (by rw [e])) trivial, fun h Lp hL => ?_⟩
  have hl : x.length = y.length := by
    have : (x.length : Int) = (y.length : Int) := Classical.byContradiction h
    omega
  have key : ∀ (m i : Nat), i + m = x.length → x.take i = y.take i → Lp (i : Int) := by
    intro m
    induction m with
    | zero =>
      intro i hi ht
      refine hL _ ⟨fun hlt => by omega, fun _ => ?_⟩
      rw [show i = x.length by omega, List.take_length, hl, List.take_length] at ht
      exact (hR.2 ht).symm
    | succ m ih =>
      intro i hi ht
      have hlt : i < x.length := by omega
      have hlt' : i < y.length := by omega
      have hgx : x.getD i d = x[i] := by rw [List.getD_eq_getElem?_getD, List.getElem?_eq_getElem hlt]; rfl
      have hgy : y.getD i d = y[i] := by rw [List.getD_eq_getElem?_getD, List.getElem?_eq_getElem hlt']; rfl
      refine hL _ ⟨fun _ => ?_, fun hn => by omega⟩
      simp only [Int.toNat_natCast, hgx, hgy]
      refine ⟨by omega, by omega, by omega, by omega, hP i _ _ (List.getElem?_eq_getElem hlt), fun hne => ?_, fun heq => ?_⟩
      · refine hf (p := ¬ F x[i] y[i] = true) (fun h e => h ((hF _ _).2 ?_)) hne
        subst e
        rfl
      · rw [wrapI _ (by omega) (by omega)]
        have he : x[i] = y[i] := (hF _ _).1 (Classical.byContradiction heq)
        refine ih (i + 1) (by omega) ?_
        rw [List.take_add_one, List.take_add_one, ht, List.getElem?_eq_getElem hlt, List.getElem?_eq_getElem hlt', he]
  exact key x.length 0 (by omega) (by simp)

def toS {α : Type} (d : α) (b : Nat) (P : α → Prop) (x : List α) (Q : List α → Prop) : Prop :=
  (x.length : Int) = (x.length : Int) ∧ 0 ≤ (x.length : Int) ∧ (x.length : Int) * (b : Int) ≤ 140737488355328 ∧ ∀ Lp : List α × Int → Prop,
    (∀ y : List α × Int, ((y.2 < (x.length : Int) → 0 ≤ y.2 ∧ y.2 < (x.length : Int) ∧ P (x.getD y.2.toNat d) ∧ 0 ≤ y.2 ∧ y.2 < (y.1.length : Int) ∧ Lp (y.1.set y.2.toNat (x.getD y.2.toNat d), IntKind.i64.wrap (y.2 + 1))) ∧
      (¬ y.2 < (x.length : Int) → Q y.1)) → Lp y) → Lp (List.replicate (x.length : Int).toNat d, 0)
theorem toS_holds {α : Type} (d : α) (b : Nat) (P : α → Prop) (x : List α) (hlen : x.length ≤ 1048576) (hb : b ≤ 1048576) (hP : ∀ (i : Nat) (a : α), gt x i = some a → P a) {Q : List α → Prop} (hQ : Q x) : toS d b P x Q := by
  have hmul : x.length * b ≤ 1048576 * 1048576 := Nat.mul_le_mul hlen hb
  refine ⟨rfl, by omega, by rw [← Int.natCast_mul]; omega, fun Lp hL => ?_⟩
  have key : ∀ (m i : Nat), i + m = x.length → Lp (x.take i ++ List.replicate m d, (i : Int)) := by
    intro m
    induction m with
    | zero =>
      intro i hi
      refine hL _ ⟨fun hlt => by simp only at hlt; omega, fun _ => ?_⟩
      simp only [List.replicate_zero, List.append_nil]
      rw [show i = x.length by omega, List.take_length]
      exact hQ
    | succ m ih =>
      intro i hi
      have hlt : i < x.length := by omega
      have hgx : x.getD i d = x[i] := by rw [List.getD_eq_getElem?_getD, List.getElem?_eq_getElem hlt]; rfl
      refine hL _ ⟨fun _ => ?_, fun hn => by simp only at hn; omega⟩
      simp only [Int.toNat_natCast, hgx]
      refine ⟨by omega, by omega, hP i _ (List.getElem?_eq_getElem hlt), by omega, by simp only [List.length_append, List.length_take, List.length_replicate]; omega, ?_⟩
      rw [wrapI _ (by omega) (by omega)]
      have hset : (x.take i ++ List.replicate (m + 1) d).set i x[i] = x.take (i + 1) ++ List.replicate m d := by
        rw [List.set_append_right _ _ (by rw [List.length_take]; omega), List.length_take, show i - min i x.length = 0 by omega, List.replicate_succ, List.set_cons_zero, show x.take (i + 1) = x.take i ++ [x[i]] from by rw [List.take_add_one, List.getElem?_eq_getElem hlt]; rfl, List.append_assoc]
        rfl
      rw [hset]
      exact ih (i + 1) (by omega)
  have := key x.length 0 (by omega)
  simpa using this

inductive SzStep (α : Type) where
  | str (g : α → ByteArray)
  | call (W : α → Prop) (c : α → Nat)
def szSt {α : Type} (x : α) : List (SzStep α) → Int → (Int → Prop) → Prop
  | [], k, Q => Q k
  | .str g :: r, k, Q => (IntKind.i64.wrap (k - ((g x).size : Int)) < 0 → Q (-1)) ∧ (¬ IntKind.i64.wrap (k - ((g x).size : Int)) < 0 → szSt x r (IntKind.i64.wrap (k - ((g x).size : Int))) Q)
  | .call W c :: r, k, Q => (W x ∧ 0 ≤ k ∧ k ≤ capI) ∧ ((leftI (c x) k < 0 → Q (-1)) ∧ (¬ leftI (c x) k < 0 → szSt x r (leftI (c x) k) Q))
def szSum {α : Type} (x : α) : List (SzStep α) → Nat
  | [] => 0
  | .str g :: r => (g x).size + szSum x r
  | .call _ c :: r => c x + szSum x r
def szFine {α : Type} (x : α) : List (SzStep α) → Prop
  | [] => True
  | .str g :: r => wf .str (g x) ∧ szFine x r
  | .call W _ :: r => W x ∧ szFine x r
theorem szSt_holds {α : Type} (x : α) : ∀ (l : List (SzStep α)) (k : Int) (n : Nat), szFine x l → 0 ≤ k → k ≤ capI → szSum x l = n → szSt x l k (fun r => r = leftI n k)
  | [], k, n, _, h0, h1, hn => by
    simp only [szSum] at hn
    subst hn
    simp only [szSt, leftI]
    rw [if_neg (by omega)]
    omega
  | .str g :: r, k, n, hf, h0, h1, hn => by
    simp only [szFine, wf, maxLen] at hf
    simp only [szSum] at hn
    simp only [capI] at h1
    have hw := wrapI (k - ((g x).size : Int)) (by omega) (by omega)
    simp only [szSt, hw]
    refine ⟨fun h => ?_, fun h => ?_⟩
    · unfold leftI
      rw [if_pos (by omega)]
    · have := szSt_holds x r (k - ((g x).size : Int)) (szSum x r) hf.2 (by omega) (by simp only [capI]; omega) rfl
      have e : leftI (szSum x r) (k - ((g x).size : Int)) = leftI n k := by
        unfold leftI
        by_cases hc : k - ((g x).size : Int) < (szSum x r : Int)
        · rw [if_pos hc, if_pos (by omega)]
        · rw [if_neg hc, if_neg (by omega)]; omega
      rwa [e] at this
  | .call W c :: r, k, n, hf, h0, h1, hn => by
    simp only [szFine] at hf
    simp only [szSum] at hn
    simp only [szSt]
    refine ⟨⟨hf.1, h0, h1⟩, fun h => ?_, fun h => ?_⟩
    · unfold leftI at h ⊢
      by_cases hc : k < (c x : Int)
      · rw [if_pos (by omega)]
      · rw [if_neg hc] at h; omega
    · have hk : leftI (c x) k = k - (c x : Int) := by
        unfold leftI at h ⊢
        by_cases hc : k < (c x : Int)
        · rw [if_pos hc] at h; omega
        · rw [if_neg hc]
      rw [hk] at h ⊢
      simp only [capI] at h1
      have := szSt_holds x r (k - (c x : Int)) (szSum x r) hf.2 (by omega) (by simp only [capI]; omega) rfl
      have e : leftI (szSum x r) (k - (c x : Int)) = leftI n k := by
        unfold leftI
        by_cases hc : k - (c x : Int) < (szSum x r : Int)
        · rw [if_pos hc, if_pos (by omega)]
        · rw [if_neg hc, if_neg (by omega)]; omega
      rwa [e] at this
inductive EqStep (α : Type) where
  | ne (p : α → α → Prop)
  | call (W : α → α → Prop) (F : α → α → Bool)
def eqSt {α : Type} (x y : α) : List (EqStep α) → (Bool → Prop) → Prop
  | [], Q => Q true
  | .ne p :: r, Q => (p x y → Q false) ∧ (¬ p x y → eqSt x y r Q)
  | .call W F :: r, Q => W x y ∧ ((¬ F x y = true → Q false) ∧ (¬ ¬ F x y = true → eqSt x y r Q))
def eqAll {α : Type} (x y : α) : List (EqStep α) → Prop
  | [] => True
  | .ne p :: r => ¬ p x y ∧ eqAll x y r
  | .call _ F :: r => F x y = true ∧ eqAll x y r
def eqFine {α : Type} (x y : α) : List (EqStep α) → Prop
  | [] => True
  | .ne _ :: r => eqFine x y r
  | .call W _ :: r => W x y ∧ eqFine x y r
theorem eqSt_holds {α : Type} (x y : α) : ∀ (l : List (EqStep α)) {R : Bool}, eqFine x y l → (R = true ↔ eqAll x y l) → eqSt x y l (fun r => r = R)
  | [], R, _, hR => by
    simp only [eqSt]
    exact (hR.2 trivial).symm
  | .ne p :: r, R, hf, hR => by
    simp only [eqSt]
    refine ⟨fun h => ?_, fun h => eqSt_holds x y r hf (hR.trans ⟨fun h => h.2, fun h' => ⟨h, h'⟩⟩)⟩
    cases R with
    | false => rfl
    | true => exact absurd h (hR.1 rfl).1
  | .call W F :: r, R, hf, hR => by
    simp only [eqSt]
    refine ⟨hf.1, fun h => ?_, fun h => eqSt_holds x y r hf.2 (hR.trans ⟨fun h => h.2, fun h' => ⟨Classical.byContradiction h, h'⟩⟩)⟩
    cases R with
    | false => rfl
    | true => exact absurd (hR.1 rfl).1 h
theorem sumN_mem : ∀ {l : List Nat} {a : Nat}, a ∈ l → a ≤ sumN l
  | b :: l, a, h => by
    simp only [sumN]
    rcases List.mem_cons.1 h with rfl | h
    · omega
    · have := sumN_mem h; omega
end Go.Ev
end

section
/- The plain library, first part: canonical types of the program's data, texts as lists of bytes, loops by measure. -/
set_option linter.unusedVariables false
namespace Go.Ev
abbrev S := ByteArray
abbrev Fld : Type := S × S
abbrev Req : Type := S × S × List Fld × S
abbrev Rsp : Type := Int × List Fld × S
abbrev Slt : Type := S × List Fld × Int × List Fld × S × Int × Int × Bool
abbrev Shd : Type := Int × Int × List Slt × Int
abbrev Gen : Type := S × Int
abbrev Flt : Type := S × Bool × Int × Bool × Bool × S × S × List Fld × S × Int × List Fld × S × Int × Int
abbrev Rsc : Type := S × S × Int × Int × Bool × Bool × List Fld
abbrev Tld : Type := Int × Int × List Fld × S
abbrev Evt : Type := Int × Int × Int × S × Int × Int
abbrev Cnn : Type := Int × S × Int × S × S × List Fld × S × S × S × List Fld × S × S × List Fld × Int × List Fld × S × Int × Int × Bool × Int × Int × Int × Int × Bool × Int × List Fld × S × List Tld
class Dft (α : Type) where
  dft : α
instance : Dft Int := ⟨0⟩
instance : Dft Bool := ⟨false⟩
instance : Dft ByteArray := ⟨ByteArray.empty⟩
instance {α : Type} : Dft (List α) := ⟨[]⟩
instance {α β : Type} [Dft α] [Dft β] : Dft (α × β) := ⟨(Dft.dft, Dft.dft)⟩
def rx {α : Type} [Dft α] (xs : List α) (i : Int) : α := xs.getD i.toNat Dft.dft
theorem rx_nat {α : Type} [Dft α] (xs : List α) (i : Nat) (h : i < xs.length) : rx xs (i : Int) = xs[i] := by
  unfold rx
  rw [Int.toNat_natCast, List.getD_eq_getElem?_getD, List.getElem?_eq_getElem h]; rfl

class Cz (α : Type) where
  czOf : α → Nat
def cz {α : Type} [Cz α] (x : α) : Nat := Cz.czOf x
instance : Cz Int := ⟨fun _ => 0⟩
instance : Cz Bool := ⟨fun _ => 0⟩
instance : Cz ByteArray := ⟨fun s => s.size⟩
instance {α : Type} [Cz α] : Cz (List α) := ⟨fun xs => xs.length + sumN (xs.map cz)⟩
instance {α β : Type} [Cz α] [Cz β] : Cz (α × β) := ⟨fun x => cz x.1 + cz x.2⟩
theorem cz_int (x : Int) : cz x = 0 := rfl
theorem cz_bool (x : Bool) : cz x = 0 := rfl
theorem cz_str (x : ByteArray) : cz x = x.size := rfl
theorem cz_list {α : Type} [Cz α] (xs : List α) : cz xs = xs.length + sumN (xs.map cz) := rfl
theorem cz_pair {α β : Type} [Cz α] [Cz β] (x : α × β) : cz x = cz x.1 + cz x.2 := rfl
theorem czt {α β : Type} [Cz α] [Cz β] {x : α × β} {n : Nat} (h : cz x ≤ n) : cz x.2 ≤ n := by rw [cz_pair] at h; omega
theorem czh {α β : Type} [Cz α] [Cz β] {x : α × β} {n : Nat} (h : cz x ≤ n) : cz x.1 ≤ n := by rw [cz_pair] at h; omega
theorem cz_len {α : Type} [Cz α] (xs : List α) : xs.length ≤ cz xs := by rw [cz_list]; omega
theorem cz_mem {α : Type} [Cz α] {xs : List α} {x : α} (h : x ∈ xs) : cz x + 1 ≤ cz xs := by
  rw [cz_list]
  have h1 := sumN_mem (List.mem_map.2 ⟨x, h, rfl⟩ : cz x ∈ xs.map cz)
  have h2 : 0 < xs.length := List.length_pos_of_mem h
  omega

def in64 (n : Int) : Prop := -9223372036854775808 ≤ n ∧ n ≤ 9223372036854775807
class Wd (α : Type) where
  wdOf : α → Prop
def wd {α : Type} [Wd α] (x : α) : Prop := Wd.wdOf x
instance : Wd Int := ⟨fun n => (Lit.int .i64 n).wf = true⟩
instance : Wd Bool := ⟨fun _ => True⟩
instance : Wd ByteArray := ⟨fun s => s.size ≤ maxLen⟩
instance {α : Type} [Wd α] : Wd (List α) := ⟨fun xs => xs.length ≤ maxLen ∧ ∀ (i : Nat) (x : α), gt xs i = some x → wd x⟩
instance {α β : Type} [Wd α] [Wd β] : Wd (α × β) := ⟨fun x => wd x.1 ∧ wd x.2⟩
instance : DecidableEq (List Fld × S) := @instDecidableEqProd _ _ inferInstance inferInstance
instance : DecidableEq (Int × List Fld × S) := @instDecidableEqProd _ _ inferInstance inferInstance
instance : Dft (Int × List Fld × S) := inferInstance
instance : Cz (Int × List Fld × S) := inferInstance
instance : Wd (Int × List Fld × S) := inferInstance
instance : DecidableEq (S × List Fld × S) := @instDecidableEqProd _ _ inferInstance inferInstance
instance : DecidableEq (S × S × List Fld × S) := @instDecidableEqProd _ _ inferInstance inferInstance
instance : Dft (S × S × List Fld × S) := inferInstance
instance : Cz (S × S × List Fld × S) := inferInstance
instance : Wd (S × S × List Fld × S) := inferInstance
instance : DecidableEq (Int × Int × List Fld × S) := @instDecidableEqProd _ _ inferInstance inferInstance
instance : Dft (Int × Int × List Fld × S) := inferInstance
instance : Cz (Int × Int × List Fld × S) := inferInstance
instance : Wd (Int × Int × List Fld × S) := inferInstance
instance : DecidableEq (Int × Int) := @instDecidableEqProd _ _ inferInstance inferInstance
instance : DecidableEq (S × Int × Int) := @instDecidableEqProd _ _ inferInstance inferInstance
instance : DecidableEq (List Fld × S × Int × Int) := @instDecidableEqProd _ _ inferInstance inferInstance
instance : Dft (List Fld × S × Int × Int) := inferInstance
instance : Cz (List Fld × S × Int × Int) := inferInstance
instance : Wd (List Fld × S × Int × Int) := inferInstance
instance : DecidableEq (Int × List Fld × S × Int × Int) := @instDecidableEqProd _ _ inferInstance inferInstance
instance : DecidableEq (List Fld × Int × List Fld × S × Int × Int) := @instDecidableEqProd _ _ inferInstance inferInstance
instance : DecidableEq (S × List Fld × Int × List Fld × S × Int × Int) := @instDecidableEqProd _ _ inferInstance inferInstance
instance : Dft (S × List Fld × Int × List Fld × S × Int × Int) := inferInstance
instance : Cz (S × List Fld × Int × List Fld × S × Int × Int) := inferInstance
instance : Wd (S × List Fld × Int × List Fld × S × Int × Int) := inferInstance
instance : DecidableEq (Int × Bool) := @instDecidableEqProd _ _ inferInstance inferInstance
instance : DecidableEq (Int × Int × Bool) := @instDecidableEqProd _ _ inferInstance inferInstance
instance : DecidableEq (S × Int × Int × Bool) := @instDecidableEqProd _ _ inferInstance inferInstance
instance : Dft (S × Int × Int × Bool) := inferInstance
instance : Cz (S × Int × Int × Bool) := inferInstance
instance : Wd (S × Int × Int × Bool) := inferInstance
instance : DecidableEq (List Fld × S × Int × Int × Bool) := @instDecidableEqProd _ _ inferInstance inferInstance
instance : DecidableEq (Int × List Fld × S × Int × Int × Bool) := @instDecidableEqProd _ _ inferInstance inferInstance
instance : DecidableEq (List Fld × Int × List Fld × S × Int × Int × Bool) := @instDecidableEqProd _ _ inferInstance inferInstance
instance : DecidableEq (S × List Fld × Int × List Fld × S × Int × Int × Bool) := @instDecidableEqProd _ _ inferInstance inferInstance
instance : Dft (S × List Fld × Int × List Fld × S × Int × Int × Bool) := inferInstance
instance : Cz (S × List Fld × Int × List Fld × S × Int × Int × Bool) := inferInstance
instance : Wd (S × List Fld × Int × List Fld × S × Int × Int × Bool) := inferInstance
instance : DecidableEq (List Slt × Int) := @instDecidableEqProd _ _ inferInstance inferInstance
instance : DecidableEq (Int × List Slt × Int) := @instDecidableEqProd _ _ inferInstance inferInstance
instance : DecidableEq (Int × Int × List Slt × Int) := @instDecidableEqProd _ _ inferInstance inferInstance
instance : Dft (Int × Int × List Slt × Int) := inferInstance
instance : Cz (Int × Int × List Slt × Int) := inferInstance
instance : Wd (Int × Int × List Slt × Int) := inferInstance
instance : DecidableEq (S × Int) := @instDecidableEqProd _ _ inferInstance inferInstance
instance : Dft (S × Int) := inferInstance
instance : Cz (S × Int) := inferInstance
instance : Wd (S × Int) := inferInstance
instance : DecidableEq (S × Int × List Fld × S × Int × Int) := @instDecidableEqProd _ _ inferInstance inferInstance
instance : DecidableEq (List Fld × S × Int × List Fld × S × Int × Int) := @instDecidableEqProd _ _ inferInstance inferInstance
instance : DecidableEq (S × List Fld × S × Int × List Fld × S × Int × Int) := @instDecidableEqProd _ _ inferInstance inferInstance
instance : Dft (S × List Fld × S × Int × List Fld × S × Int × Int) := inferInstance
instance : Cz (S × List Fld × S × Int × List Fld × S × Int × Int) := inferInstance
instance : Wd (S × List Fld × S × Int × List Fld × S × Int × Int) := inferInstance
instance : DecidableEq (S × S × List Fld × S × Int × List Fld × S × Int × Int) := @instDecidableEqProd _ _ inferInstance inferInstance
instance : DecidableEq (Bool × S × S × List Fld × S × Int × List Fld × S × Int × Int) := @instDecidableEqProd _ _ inferInstance inferInstance
instance : DecidableEq (Bool × Bool × S × S × List Fld × S × Int × List Fld × S × Int × Int) := @instDecidableEqProd _ _ inferInstance inferInstance
instance : DecidableEq (Int × Bool × Bool × S × S × List Fld × S × Int × List Fld × S × Int × Int) := @instDecidableEqProd _ _ inferInstance inferInstance
instance : Dft (Int × Bool × Bool × S × S × List Fld × S × Int × List Fld × S × Int × Int) := inferInstance
instance : Cz (Int × Bool × Bool × S × S × List Fld × S × Int × List Fld × S × Int × Int) := inferInstance
instance : Wd (Int × Bool × Bool × S × S × List Fld × S × Int × List Fld × S × Int × Int) := inferInstance
instance : DecidableEq (Bool × Int × Bool × Bool × S × S × List Fld × S × Int × List Fld × S × Int × Int) := @instDecidableEqProd _ _ inferInstance inferInstance
instance : DecidableEq (S × Bool × Int × Bool × Bool × S × S × List Fld × S × Int × List Fld × S × Int × Int) := @instDecidableEqProd _ _ inferInstance inferInstance
instance : Dft (S × Bool × Int × Bool × Bool × S × S × List Fld × S × Int × List Fld × S × Int × Int) := inferInstance
instance : Cz (S × Bool × Int × Bool × Bool × S × S × List Fld × S × Int × List Fld × S × Int × Int) := inferInstance
instance : Wd (S × Bool × Int × Bool × Bool × S × S × List Fld × S × Int × List Fld × S × Int × Int) := inferInstance
instance : DecidableEq (Bool × List Fld) := @instDecidableEqProd _ _ inferInstance inferInstance
instance : DecidableEq (Bool × Bool × List Fld) := @instDecidableEqProd _ _ inferInstance inferInstance
instance : DecidableEq (Int × Bool × Bool × List Fld) := @instDecidableEqProd _ _ inferInstance inferInstance
instance : Dft (Int × Bool × Bool × List Fld) := inferInstance
instance : Cz (Int × Bool × Bool × List Fld) := inferInstance
instance : Wd (Int × Bool × Bool × List Fld) := inferInstance
instance : DecidableEq (Int × Int × Bool × Bool × List Fld) := @instDecidableEqProd _ _ inferInstance inferInstance
instance : DecidableEq (S × Int × Int × Bool × Bool × List Fld) := @instDecidableEqProd _ _ inferInstance inferInstance
instance : DecidableEq (S × S × Int × Int × Bool × Bool × List Fld) := @instDecidableEqProd _ _ inferInstance inferInstance
instance : Dft (S × S × Int × Int × Bool × Bool × List Fld) := inferInstance
instance : Cz (S × S × Int × Int × Bool × Bool × List Fld) := inferInstance
instance : Wd (S × S × Int × Int × Bool × Bool × List Fld) := inferInstance
instance : DecidableEq (Int × S × Int × Int) := @instDecidableEqProd _ _ inferInstance inferInstance
instance : Dft (Int × S × Int × Int) := inferInstance
instance : Cz (Int × S × Int × Int) := inferInstance
instance : Wd (Int × S × Int × Int) := inferInstance
instance : DecidableEq (Int × Int × S × Int × Int) := @instDecidableEqProd _ _ inferInstance inferInstance
instance : DecidableEq (Int × Int × Int × S × Int × Int) := @instDecidableEqProd _ _ inferInstance inferInstance
instance : Dft (Int × Int × Int × S × Int × Int) := inferInstance
instance : Cz (Int × Int × Int × S × Int × Int) := inferInstance
instance : Wd (Int × Int × Int × S × Int × Int) := inferInstance
instance : DecidableEq (S × List Tld) := @instDecidableEqProd _ _ inferInstance inferInstance
instance : DecidableEq (List Fld × S × List Tld) := @instDecidableEqProd _ _ inferInstance inferInstance
instance : DecidableEq (Int × List Fld × S × List Tld) := @instDecidableEqProd _ _ inferInstance inferInstance
instance : Dft (Int × List Fld × S × List Tld) := inferInstance
instance : Cz (Int × List Fld × S × List Tld) := inferInstance
instance : Wd (Int × List Fld × S × List Tld) := inferInstance
instance : DecidableEq (Bool × Int × List Fld × S × List Tld) := @instDecidableEqProd _ _ inferInstance inferInstance
instance : DecidableEq (Int × Bool × Int × List Fld × S × List Tld) := @instDecidableEqProd _ _ inferInstance inferInstance
instance : DecidableEq (Int × Int × Bool × Int × List Fld × S × List Tld) := @instDecidableEqProd _ _ inferInstance inferInstance
instance : DecidableEq (Int × Int × Int × Bool × Int × List Fld × S × List Tld) := @instDecidableEqProd _ _ inferInstance inferInstance
instance : Dft (Int × Int × Int × Bool × Int × List Fld × S × List Tld) := inferInstance
instance : Cz (Int × Int × Int × Bool × Int × List Fld × S × List Tld) := inferInstance
instance : Wd (Int × Int × Int × Bool × Int × List Fld × S × List Tld) := inferInstance
instance : DecidableEq (Int × Int × Int × Int × Bool × Int × List Fld × S × List Tld) := @instDecidableEqProd _ _ inferInstance inferInstance
instance : DecidableEq (Bool × Int × Int × Int × Int × Bool × Int × List Fld × S × List Tld) := @instDecidableEqProd _ _ inferInstance inferInstance
instance : DecidableEq (Int × Bool × Int × Int × Int × Int × Bool × Int × List Fld × S × List Tld) := @instDecidableEqProd _ _ inferInstance inferInstance
instance : DecidableEq (Int × Int × Bool × Int × Int × Int × Int × Bool × Int × List Fld × S × List Tld) := @instDecidableEqProd _ _ inferInstance inferInstance
instance : Dft (Int × Int × Bool × Int × Int × Int × Int × Bool × Int × List Fld × S × List Tld) := inferInstance
instance : Cz (Int × Int × Bool × Int × Int × Int × Int × Bool × Int × List Fld × S × List Tld) := inferInstance
instance : Wd (Int × Int × Bool × Int × Int × Int × Int × Bool × Int × List Fld × S × List Tld) := inferInstance
instance : DecidableEq (S × Int × Int × Bool × Int × Int × Int × Int × Bool × Int × List Fld × S × List Tld) := @instDecidableEqProd _ _ inferInstance inferInstance
instance : DecidableEq (List Fld × S × Int × Int × Bool × Int × Int × Int × Int × Bool × Int × List Fld × S × List Tld) := @instDecidableEqProd _ _ inferInstance inferInstance
instance : DecidableEq (Int × List Fld × S × Int × Int × Bool × Int × Int × Int × Int × Bool × Int × List Fld × S × List Tld) := @instDecidableEqProd _ _ inferInstance inferInstance
instance : DecidableEq (List Fld × Int × List Fld × S × Int × Int × Bool × Int × Int × Int × Int × Bool × Int × List Fld × S × List Tld) := @instDecidableEqProd _ _ inferInstance inferInstance
instance : Dft (List Fld × Int × List Fld × S × Int × Int × Bool × Int × Int × Int × Int × Bool × Int × List Fld × S × List Tld) := inferInstance
instance : Cz (List Fld × Int × List Fld × S × Int × Int × Bool × Int × Int × Int × Int × Bool × Int × List Fld × S × List Tld) := inferInstance
instance : Wd (List Fld × Int × List Fld × S × Int × Int × Bool × Int × Int × Int × Int × Bool × Int × List Fld × S × List Tld) := inferInstance
instance : DecidableEq (S × List Fld × Int × List Fld × S × Int × Int × Bool × Int × Int × Int × Int × Bool × Int × List Fld × S × List Tld) := @instDecidableEqProd _ _ inferInstance inferInstance
instance : DecidableEq (S × S × List Fld × Int × List Fld × S × Int × Int × Bool × Int × Int × Int × Int × Bool × Int × List Fld × S × List Tld) := @instDecidableEqProd _ _ inferInstance inferInstance
instance : DecidableEq (List Fld × S × S × List Fld × Int × List Fld × S × Int × Int × Bool × Int × Int × Int × Int × Bool × Int × List Fld × S × List Tld) := @instDecidableEqProd _ _ inferInstance inferInstance
instance : DecidableEq (S × List Fld × S × S × List Fld × Int × List Fld × S × Int × Int × Bool × Int × Int × Int × Int × Bool × Int × List Fld × S × List Tld) := @instDecidableEqProd _ _ inferInstance inferInstance
instance : Dft (S × List Fld × S × S × List Fld × Int × List Fld × S × Int × Int × Bool × Int × Int × Int × Int × Bool × Int × List Fld × S × List Tld) := inferInstance
instance : Cz (S × List Fld × S × S × List Fld × Int × List Fld × S × Int × Int × Bool × Int × Int × Int × Int × Bool × Int × List Fld × S × List Tld) := inferInstance
instance : Wd (S × List Fld × S × S × List Fld × Int × List Fld × S × Int × Int × Bool × Int × Int × Int × Int × Bool × Int × List Fld × S × List Tld) := inferInstance
instance : DecidableEq (S × S × List Fld × S × S × List Fld × Int × List Fld × S × Int × Int × Bool × Int × Int × Int × Int × Bool × Int × List Fld × S × List Tld) := @instDecidableEqProd _ _ inferInstance inferInstance
instance : DecidableEq (S × S × S × List Fld × S × S × List Fld × Int × List Fld × S × Int × Int × Bool × Int × Int × Int × Int × Bool × Int × List Fld × S × List Tld) := @instDecidableEqProd _ _ inferInstance inferInstance
instance : DecidableEq (List Fld × S × S × S × List Fld × S × S × List Fld × Int × List Fld × S × Int × Int × Bool × Int × Int × Int × Int × Bool × Int × List Fld × S × List Tld) := @instDecidableEqProd _ _ inferInstance inferInstance
instance : DecidableEq (S × List Fld × S × S × S × List Fld × S × S × List Fld × Int × List Fld × S × Int × Int × Bool × Int × Int × Int × Int × Bool × Int × List Fld × S × List Tld) := @instDecidableEqProd _ _ inferInstance inferInstance
instance : Dft (S × List Fld × S × S × S × List Fld × S × S × List Fld × Int × List Fld × S × Int × Int × Bool × Int × Int × Int × Int × Bool × Int × List Fld × S × List Tld) := inferInstance
instance : Cz (S × List Fld × S × S × S × List Fld × S × S × List Fld × Int × List Fld × S × Int × Int × Bool × Int × Int × Int × Int × Bool × Int × List Fld × S × List Tld) := inferInstance
instance : Wd (S × List Fld × S × S × S × List Fld × S × S × List Fld × Int × List Fld × S × Int × Int × Bool × Int × Int × Int × Int × Bool × Int × List Fld × S × List Tld) := inferInstance
instance : DecidableEq (S × S × List Fld × S × S × S × List Fld × S × S × List Fld × Int × List Fld × S × Int × Int × Bool × Int × Int × Int × Int × Bool × Int × List Fld × S × List Tld) := @instDecidableEqProd _ _ inferInstance inferInstance
instance : DecidableEq (Int × S × S × List Fld × S × S × S × List Fld × S × S × List Fld × Int × List Fld × S × Int × Int × Bool × Int × Int × Int × Int × Bool × Int × List Fld × S × List Tld) := @instDecidableEqProd _ _ inferInstance inferInstance
instance : DecidableEq (S × Int × S × S × List Fld × S × S × S × List Fld × S × S × List Fld × Int × List Fld × S × Int × Int × Bool × Int × Int × Int × Int × Bool × Int × List Fld × S × List Tld) := @instDecidableEqProd _ _ inferInstance inferInstance
instance : DecidableEq (Int × S × Int × S × S × List Fld × S × S × S × List Fld × S × S × List Fld × Int × List Fld × S × Int × Int × Bool × Int × Int × Int × Int × Bool × Int × List Fld × S × List Tld) := @instDecidableEqProd _ _ inferInstance inferInstance
instance : Dft (Int × S × Int × S × S × List Fld × S × S × S × List Fld × S × S × List Fld × Int × List Fld × S × Int × Int × Bool × Int × Int × Int × Int × Bool × Int × List Fld × S × List Tld) := inferInstance
instance : Cz (Int × S × Int × S × S × List Fld × S × S × S × List Fld × S × S × List Fld × Int × List Fld × S × Int × Int × Bool × Int × Int × Int × Int × Bool × Int × List Fld × S × List Tld) := inferInstance
instance : Wd (Int × S × Int × S × S × List Fld × S × S × S × List Fld × S × S × List Fld × Int × List Fld × S × Int × Int × Bool × Int × Int × Int × Int × Bool × Int × List Fld × S × List Tld) := inferInstance
instance : DecidableEq (List Shd × List Gen) := @instDecidableEqProd _ _ inferInstance inferInstance
instance : Dft (List Shd × List Gen) := inferInstance
instance : Cz (List Shd × List Gen) := inferInstance
instance : Wd (List Shd × List Gen) := inferInstance
instance : DecidableEq (List Rsc × List Evt) := @instDecidableEqProd _ _ inferInstance inferInstance
instance : DecidableEq (List Flt × List Rsc × List Evt) := @instDecidableEqProd _ _ inferInstance inferInstance
instance : DecidableEq (List Gen × List Flt × List Rsc × List Evt) := @instDecidableEqProd _ _ inferInstance inferInstance
instance : Dft (List Gen × List Flt × List Rsc × List Evt) := inferInstance
instance : Cz (List Gen × List Flt × List Rsc × List Evt) := inferInstance
instance : Wd (List Gen × List Flt × List Rsc × List Evt) := inferInstance
instance : DecidableEq (List Shd × List Gen × List Flt × List Rsc × List Evt) := @instDecidableEqProd _ _ inferInstance inferInstance
instance : DecidableEq (List Cnn × List Shd × List Gen × List Flt × List Rsc × List Evt) := @instDecidableEqProd _ _ inferInstance inferInstance
instance : DecidableEq (Int × List Cnn × List Shd × List Gen × List Flt × List Rsc × List Evt) := @instDecidableEqProd _ _ inferInstance inferInstance
instance : DecidableEq (Int × Int × List Cnn × List Shd × List Gen × List Flt × List Rsc × List Evt) := @instDecidableEqProd _ _ inferInstance inferInstance
instance : Dft (Int × Int × List Cnn × List Shd × List Gen × List Flt × List Rsc × List Evt) := inferInstance
instance : Cz (Int × Int × List Cnn × List Shd × List Gen × List Flt × List Rsc × List Evt) := inferInstance
instance : Wd (Int × Int × List Cnn × List Shd × List Gen × List Flt × List Rsc × List Evt) := inferInstance
theorem wd_int {n : Int} : wd n ↔ in64 n := by
  show (Lit.int .i64 n).wf = true ↔ _
  have h0 : IntKind.i64.min = -9223372036854775808 := rfl
  have h1 : IntKind.i64.max = 9223372036854775807 := rfl
  unfold in64
  simp only [Lit.wf, Bool.and_eq_true, decide_eq_true_eq, h0, h1]
theorem wd_pair {α β : Type} [Wd α] [Wd β] {x : α × β} : wd x ↔ wd x.1 ∧ wd x.2 := Iff.rfl
theorem wf_wd {s : ByteArray} : wf .str s = wd s := by simp only [wf]; rfl
def szF {α : Type} [Cz α] (x : α) (k : Int) : Int := leftI (cz x) k
def pSz {α : Type} [Wd α] (x : α) (k : Int) : Prop := wd x ∧ 0 ≤ k ∧ k ≤ capI
def eqF {α : Type} [DecidableEq α] (x y : α) : Bool := decide (x = y)
def pEq {α : Type} [Wd α] (x _y : α) : Prop := wd x
theorem eqF_iff {α : Type} [DecidableEq α] {x y : α} : eqF x y = true ↔ x = y := decide_eq_true_iff
def toF {α : Type} (x : α) : α := x
def pTo {α : Type} [Cz α] (x : α) : Prop := cz x ≤ 1048576

def lit (l : List Nat) : ByteArray := ⟨(l.map UInt8.ofNat).toArray⟩
abbrev bs (s : ByteArray) : List UInt8 := s.data.toList
def ob (l : List UInt8) : ByteArray := ⟨l.toArray⟩
theorem bs_ob (l : List UInt8) : bs (ob l) = l := rfl
theorem ob_bs (s : ByteArray) : ob (bs s) = s := rfl
theorem bs_inj {s t : ByteArray} (h : bs s = bs t) : s = t := by rw [← ob_bs s, h, ob_bs]
theorem bs_len (s : ByteArray) : (bs s).length = s.size := by
  show s.data.toList.length = s.data.size
  exact Array.length_toList
theorem ob_size (l : List UInt8) : (ob l).size = l.length := by rw [← bs_len, bs_ob]
theorem bs_append (s t : ByteArray) : bs (s ++ t) = bs s ++ bs t := by
  show (s ++ t).data.toList = _
  rw [ByteArray.data_append, Array.toList_append]
theorem bs_extract (s : ByteArray) (i j : Nat) : bs (s.extract i j) = ((bs s).drop i).take (j - i) := by
  show (s.extract i j).data.toList = _
  rw [ByteArray.data_extract, Array.toList_extract, List.extract_eq_take_drop]
theorem bs_lit (l : List Nat) : bs (lit l) = l.map UInt8.ofNat := rfl
theorem size_append (s t : ByteArray) : (s ++ t).size = s.size + t.size := by rw [← bs_len, bs_append, List.length_append, bs_len, bs_len]
theorem bt_nat (s : ByteArray) (i : Nat) (h : i < s.size) : bt s (i : Int) = (((bs s)[i]'(by rw [bs_len]; exact h)).toNat : Int) := by
  unfold bt
  simp only [Int.toNat_natCast]
  rw [dif_pos h]
  rfl
theorem bt_range (s : ByteArray) (i : Int) : 0 ≤ bt s i ∧ bt s i < 256 := by
  unfold bt
  split
  · have := (s[i.toNat]).toNat_lt
    omega
  · omega
theorem lit_ne {s : ByteArray} : s ≠ lit [] ↔ s.size ≠ 0 := by
  constructor
  · intro h h0
    apply h
    apply bs_inj
    have : (bs s).length = 0 := by rw [bs_len]; exact h0
    rw [List.eq_nil_of_length_eq_zero this]; rfl
  · intro h e
    rw [e] at h
    exact h rfl
theorem wrap64 {n : Int} (h0 : -9223372036854775808 ≤ n) (h1 : n < 9223372036854775808) : IntKind.i64.wrap n = n := wrapI n h0 h1
theorem wrap8 {n : Int} (h0 : 0 ≤ n) (h1 : n < 256) : IntKind.u8.wrap n = n := by
  simp [IntKind.wrap, IntKind.bits, IntKind.signed]
  omega

theorem loopI {α : Type} {Lp : α → Prop} {B : α → Prop} (hL : ∀ y, B y → Lp y) (I : α → Prop) (m : α → Nat) (step : ∀ y, I y → (∀ y', I y' → m y' < m y → Lp y') → B y) : ∀ y, I y → Lp y := by
  have key : ∀ (n : Nat) (y : α), m y = n → I y → Lp y := by
    intro n
    induction n using Nat.strongRecOn with
    | _ n ih =>
      intro y hm hI
      exact hL y (step y hI fun y' hI' hlt => ih (m y') (by omega) y' rfl hI')
  exact fun y hI => key _ y rfl hI
instance {s t : ByteArray} : Decidable (strLt s t) := inferInstanceAs (Decidable (_ = _))
def idxI {α : Type} (p : α → Bool) (xs : List α) : Int := match xs.findIdx? p with
  | some i => (i : Int)
  | none => -1
theorem idxI_neg {α : Type} {p : α → Bool} {xs : List α} : idxI p xs < 0 ↔ xs.any p = false := by
  unfold idxI
  cases h : xs.findIdx? p with
  | none =>
    rw [List.findIdx?_eq_none_iff] at h
    simp only [Int.reduceNeg, Int.reduceLT, true_iff, List.any_eq_false, Bool.not_eq_true]
    exact h
  | some i =>
    rw [List.findIdx?_eq_some_iff_getElem] at h
    obtain ⟨hi, hp, _⟩ := h
    have : xs.any p = true := List.any_eq_true.2 ⟨xs[i], List.getElem_mem hi, hp⟩
    rw [this]
    show (i : Int) < 0 ↔ _
    constructor
    · intro h; omega
    · intro h; cases h
theorem idxI_at {α : Type} {p : α → Bool} {xs : List α} {i : Nat} (hi : i < xs.length) (hp : p xs[i] = true) (hb : ∀ j (h : j < i), p (xs[j]'(by omega)) = false) : idxI p xs = (i : Int) := by
  have : xs.findIdx? p = some i := by
    rw [List.findIdx?_eq_some_iff_getElem]
    exact ⟨hi, hp, fun j hj => by simp [hb j hj]⟩
  unfold idxI
  rw [this]
theorem idxI_none {α : Type} {p : α → Bool} {xs : List α} (hb : ∀ j (h : j < xs.length), p xs[j] = false) : idxI p xs = -1 := by
  have : xs.findIdx? p = none := by
    rw [List.findIdx?_eq_none_iff]
    intro x hx
    obtain ⟨j, hj, rfl⟩ := List.mem_iff_getElem.1 hx
    exact hb j hj
  unfold idxI
  rw [this]
end Go.Ev
namespace Go.Ev
theorem ct_by {P : Program} {E : Env} {w : World} {H : Nat → List CT} {fn : Func} {c : Ct} (hE : EnvOk P E) (hC : EnvCts P E w w.heap.size) (hf : P.funcs[c.f]? = some fn) (hname : (fn.name == "runtime.NumGoroutine") = false)
    {A : Prop} (hA : A) (hev : A = ∀ x, c.pre x → evalFn E H fn c.ps c.rs c.shared x fun r => r = c.F x) : CtAt P c w := ct_ok hE hC hf hname (hev ▸ hA)
theorem loopN {Lp B : Int → Prop} (hL : ∀ y, B y → Lp y) (n : Nat) (hn : n ≤ 9223372036854775807) (I : Nat → Prop) (step : ∀ i : Nat, i ≤ n → I i → (i < n → I (i + 1) → Lp (IntKind.i64.wrap ((i : Int) + 1))) → B (i : Int)) (h0 : I 0) : Lp 0 := by
  have key : ∀ m i : Nat, i + m = n → I i → Lp (i : Int) := by
    intro m
    induction m with
    | zero => exact fun i hi hI => hL _ (step i (by omega) hI fun h => absurd h (by omega))
    | succ m ih =>
      exact fun i hi hI => hL _ (step i (by omega) hI fun h hI' => by
        rw [wrap64 (by omega) (by omega)]
        exact ih (i + 1) (by omega) hI')
  exact key n 0 (by omega) h0
theorem loopG {σ : Type} {Lp B : σ → Prop} (hL : ∀ y, B y → Lp y) (n : Nat) (I : Nat → σ → Prop) (step : ∀ (i : Nat) (s : σ), i ≤ n → I i s → (∀ s', i < n → I (i + 1) s' → Lp s') → B s) {s0 : σ} (h0 : I 0 s0) : Lp s0 := by
  have key : ∀ (m i : Nat) (s : σ), i + m = n → I i s → Lp s := by
    intro m
    induction m with
    | zero => exact fun i s hi hI => hL _ (step i s (by omega) hI fun s' h => absurd h (by omega))
    | succ m ih => exact fun i s hi hI => hL _ (step i s (by omega) hI fun s' h hI' => ih (i + 1) s' (by omega) hI')
  exact key n 0 s0 (by omega) h0
theorem wrapS {i : Nat} (h : i ≤ 4611686018427387904) : IntKind.i64.wrap ((i : Int) + 1) = ((i + 1 : Nat) : Int) := by
  rw [wrap64 (by omega) (by omega)]; omega
theorem take_succ_app {α : Type} {l : List α} {i : Nat} (h : i < l.length) : l.take (i + 1) = l.take i ++ [l[i]] := by
  rw [List.take_add_one, List.getElem?_eq_getElem h]; rfl
theorem rx_get {α : Type} [Dft α] (xs : List α) {i : Nat} (h : i < xs.length) : rx xs (i : Int) = xs[i] := rx_nat xs i h
theorem md_mem {α : Type} [Cz α] {xs : List α} (h : cz xs ≤ 1048576) {x : α} (hx : x ∈ xs) : cz x ≤ 1048576 := by
  have := cz_mem hx
  omega
theorem any_true {α : Type} {p : α → Bool} {l : List α} {i : Nat} (h : i < l.length) (hp : p l[i] = true) : l.any p = true := List.any_eq_true.2 ⟨l[i], List.getElem_mem h, hp⟩
end Go.Ev
end

section
/- The plain library: what the program's functions compute, as Lean functions; and what they ask of their arguments. -/
set_option linter.unusedVariables false
namespace Go.Ev
def sm (s : S) : Prop := s.size ≤ 1073741824
def md {α : Type} [Cz α] (x : α) : Prop := cz x ≤ 1048576

def joinL (sep : S) : List S → S
  | [] => lit []
  | [x] => x
  | x :: y :: r => x ++ sep ++ joinL sep (y :: r)
def mJoin (xs : List S) (sep : S) : S := joinL sep xs
def pJoin (xs : List S) (sep : S) : Prop := xs.length ≤ 1073741824 ∧ sumN (xs.map fun x => x.size) ≤ 1073741824 ∧ sep.size ≤ 16
def mTrimL (s cs : S) : S := ob (Lib.trimS (bs s) (bs cs))
def pTrimL (s cs : S) : Prop := sm s ∧ cs = lit [32, 9]
def mCut (s sep : S) : S × S × Bool := (ob (Lib.cut (bs s) (bs sep)).1, ob (Lib.cut (bs s) (bs sep)).2.1, (Lib.cut (bs s) (bs sep)).2.2)
def pCut (s sep : S) : Prop := sm s
def mIndexByte (s : S) (c : Int) : Int := Lib.indexByte (bs s) c.toNat.toUInt8
def pIndexByte (s : S) (c : Int) : Prop := True
def mIndex_string (xs : List S) (x : S) : Int := idxI (fun y => decide (x = y)) xs
def pIndex_string (xs : List S) (x : S) : Prop := xs.length ≤ maxLen
def mIn (n lo hi : Int) : Bool := decide (lo ≤ n) && decide (n ≤ hi)
def pIn (n lo hi : Int) : Prop := True

def mItoa (n : Int) : S := ob (Lib.itoa n)
def pItoa (n : Int) : Prop := in64 n
def mDec (n : Int) : S := mItoa n
def pDec (n : Int) : Prop := in64 n
def mIsLetterOrDigit (b : Int) : Bool := (decide (97 ≤ b) && decide (b ≤ 122)) || (decide (65 ≤ b) && decide (b ≤ 90)) || (decide (48 ≤ b) && decide (b ≤ 57))
def pIsLetterOrDigit (b : Int) : Prop := True
def tokenSigns : List Int := [33, 35, 36, 37, 38, 39, 42, 43, 45, 46, 94, 95, 96, 124, 126]
def mToken (b : Int) : Bool := mIsLetterOrDigit b || tokenSigns.any fun c => decide (b = c)
def pToken (b : Int) : Prop := True
def ints (s : S) : List Int := (bs s).map fun b => (b.toNat : Int)
def mIsTokenText (s : S) : Bool := (ints s).all mToken && decide (s.size ≠ 0)
def pIsTokenText (s : S) : Prop := sm s
def lowB (b : UInt8) : UInt8 := if 65 ≤ b.toNat ∧ b.toNat ≤ 90 then b + 32 else b
def mLower (s : S) : S := ob ((bs s).map lowB)
def pLower (s : S) : Prop := sm s
def mBlank (b : Int) : Bool := decide (b = 32) || decide (b = 9)
def pBlank (b : Int) : Prop := True
def mTrim (s : S) : S := ob (Lib.trimS (bs s) [32, 9])
def pTrim (s : S) : Prop := sm s
def partsL : Bool → List UInt8 → List UInt8 → List (List UInt8)
  | _, cur, [] => [cur]
  | true, cur, [b] => [cur ++ [b]]
  | true, cur, b :: c :: r => if b = 34 then partsL false (cur ++ [b]) (c :: r) else if b = 92 then partsL true (cur ++ [b, c]) r else partsL true (cur ++ [b]) (c :: r)
  | false, cur, b :: r => if b = 34 then partsL true (cur ++ [b]) r else if b = 44 then cur :: partsL false [] r else partsL false (cur ++ [b]) r
def trimmed (l : List (List UInt8)) : List S := (l.map fun p => mTrim (ob p)).filter fun s => decide (s ≠ lit [])
def mSplitList (s : S) : List S := trimmed (partsL false [] (bs s))
def pSplitList (s : S) : Prop := sm s
def commasL : Bool → Int → List UInt8 → List Int
  | _, _, [] => []
  | true, _, [_] => []
  | true, i, b :: c :: r => if b = 34 then commasL false (i + 1) (c :: r) else if b = 92 then commasL true (i + 2) r else commasL true (i + 1) (c :: r)
  | false, i, b :: r => if b = 34 then commasL true (i + 1) r else if b = 44 then i :: commasL false (i + 1) r else commasL false (i + 1) r
def mCommas (s : S) : List Int := commasL false 0 (bs s)
def pCommas (s : S) : Prop := sm s

def valuesOf (l : List Fld) (n : S) : List S := (l.filter fun f => decide (f.1 = n)).map fun f => f.2
def mFieldGet (l : List Fld) (n : S) : S × Bool := (mJoin (valuesOf l n) (lit [44, 32]), decide (0 < (valuesOf l n).length))
def pFieldGet (l : List Fld) (n : S) : Prop := md l
def mHasField (l : List Fld) (n : S) : Bool := (mFieldGet l n).2
def pHasField (l : List Fld) (n : S) : Prop := md l
def mL7Unquote (s : S) : S := if 2 ≤ (s.size : Int) ∧ bt s 0 = 34 ∧ bt s ((s.size : Int) - 1) = 34 then s.extract 1 (s.size - 1) else s
def pL7Unquote (s : S) : Prop := sm s
def dirOf (p : S) : Option Fld := if mIsTokenText (mCut p (lit [61])).1 = true then some (mLower (mCut p (lit [61])).1, mL7Unquote (mCut p (lit [61])).2.1) else none
def nameCC : S := lit [99, 97, 99, 104, 101, 45, 99, 111, 110, 116, 114, 111, 108]
def mDirectives (l : List Fld) : List Fld := (mSplitList (mFieldGet l nameCC).1).filterMap dirOf
def pDirectives (l : List Fld) : Prop := md l
def mCcHas_1 (d : Fld) (n : S) : Bool := decide (d.1 = n)
def pCcHas_1 (d : Fld) (n : S) : Prop := True
def mIndexFunc_CcHas_1 (l : List Fld) (n : S) : Int := idxI (fun d => mCcHas_1 d n) l
def pIndexFunc_CcHas_1 (l : List Fld) (n : S) : Prop := l.length ≤ maxLen
def mContainsFunc_CcHas_1 (l : List Fld) (n : S) : Bool := l.any fun d => mCcHas_1 d n
def pContainsFunc_CcHas_1 (l : List Fld) (n : S) : Prop := l.length ≤ maxLen
def mCcHas (l : List Fld) (n : S) : Bool := (mDirectives l).any fun d => mCcHas_1 d n
def pCcHas (l : List Fld) (n : S) : Prop := md l
def sMaxAge : S := lit [109, 97, 120, 45, 97, 103, 101]
def sSMaxAge : S := lit [115, 45, 109, 97, 120, 97, 103, 101]
def sExpires : S := lit [101, 120, 112, 105, 114, 101, 115]
def sNoCache : S := lit [110, 111, 45, 99, 97, 99, 104, 101]
end Go.Ev
end

section
/- The plain library: what the laws' marks are. -/
set_option linter.unusedVariables false
namespace Go.Ev
end Go.Ev
end

section
/- The plain library: marks of texts in a row, FieldSet and WithAge. -/
set_option linter.unusedVariables false
namespace Go.Ev
def mWithin (a : Int) : Int := if 0 < (if 2147483648 < a then 2147483648 else a) then (if 2147483648 < a then 2147483648 else a) else 0
def pWithin (a : Int) : Prop := True
def sAge : S := lit [97, 103, 101]
end Go.Ev
end

section
/- A law's end: from the contract of the law's function to its calls. -/
set_option linter.unusedVariables false
namespace Go.Ev
open Go.RowKit Go.WideShapes
def boolCt (f : FuncId) (ps : List PT) (pre : pts ps → Prop) : Ct := { f, ps, rs := [(false, [.bool])], shared := false, pre, F := fun _ => (true : Bool) }
theorem bool_end {P : Program} {f : FuncId} {ps : List PT} {pre : pts ps → Prop} {W : World} {vals : Array Value} {x : pts ps} (h : CtAt P (boolCt f ps pre) W) (hargs : argsR (now W) W ps x vals.toList) (hpre : pre x) :
    Calls P f vals W fun e w' => e = .returned (.bool true) ∧ Below W.heap.size W w' := by
  obtain ⟨_, hc⟩ := h vals x (now W) (fun b hb => hb) hargs hpre
  refine hc.mono fun e w' ⟨vs, v, col, he, hb, hv, _, hr⟩ => ?_
  simp only [boolCt, resR] at hr
  obtain ⟨u, vs', cs, rfl, ho, hs, rfl⟩ := hr
  simp only [outR, repL] at ho
  obtain ⟨u2, cs', rfl, hb2, rfl⟩ := ho
  have hs := hs.resolve_left fun h => by simp [anyRes] at h
  simp only [slotV, Bool.false_eq_true, if_false] at hs
  have e1 : u2 = u := by simpa using hs
  subst e1
  have hu : u2 = .bool true := hb2
  subst hu
  refine ⟨?_, hb⟩
  rw [he]
  rcases hv with hv | ⟨hv, _⟩
  · have : v = .bool true := by simpa using hv.symm
    rw [this]
  · simp at hv
theorem args_nil {S : Nat → Prop} {W : World} : argsR S W [] () [] := rfl
theorem args_cons {S : Nat → Prop} {W : World} {p : PT} {ps : List PT} {x : p.den} {xs : pts ps} {v : Value} {vs : List Value} (h1 : argR S W p x v) (h2 : argsR S W ps xs vs) : argsR S W (p :: ps) (pmk x xs) (v :: vs) := by
  simp only [argsR]
  exact ⟨v, vs, rfl, by rw [phd_pmk]; exact h1, by rw [ptl_pmk]; exact h2⟩
theorem arg_agg {S : Nat → Prop} {W : World} {ts : List L} {x : dens ts} {cs : Array Value} (h : repLs (roRow W S) ts [] 0 0 x cs.toList) : argR S W (.v true .ro ts) x (.agg cs) := ⟨cs.toList, h, by simp [slotV]⟩
theorem arg_one {S : Nat → Prop} {W : World} {ts : List L} {x : dens ts} {v : Value} (h : repLs (roRow W S) ts [] 0 0 x [v]) : argR S W (.v false .ro ts) x v := ⟨[v], h, by simp [slotV]⟩
theorem by_like {A B : Prop} (hA : A) (h : A = B) : B := h ▸ hA
end Go.Ev
end

section
/- Library functions: from a call's law to a contract of the small machine. -/
set_option linter.unusedVariables false
namespace Go.Ev
open Go.RowKit
theorem tab_below {P : Program} {w W : World} {name : String} {k : IntKind} {zs : List Int} (h : Lib.TabIs P w name k zs) (hb : Below w.heap.size w W) : Lib.TabIs P W name k zs := by
  unfold Lib.TabIs World.var? at *
  cases hg : P.globalNamed name with
  | none => simp [hg] at h
  | some g =>
    simp only [hg, Option.bind_some] at h ⊢
    have hlt : g < w.heap.size := by
      rcases Nat.lt_or_ge g w.heap.size with h' | h'
      · exact h'
      · rw [Array.getElem?_eq_none h'] at h; simp at h
    rw [hb.block g hlt]
    exact h
def FnIs (P : Program) (f : FuncId) : Prop := ∃ fn, P.funcs[f]? = some fn ∧ (fn.name == "runtime.NumGoroutine") = false ∧ fn.body.isNone = false
theorem args_v {S : Nat → Prop} {W : World} {t : L} {ps : List PT} {x : pts (.v false .ro [t] :: ps)} {vs : List Value} (h : argsR S W (.v false .ro [t] :: ps) x vs) :
    ∃ v vs', vs = v :: vs' ∧ repL (roRow W S) t [(0, 0)] (hd (phd x)) v ∧ argsR S W ps (ptl x) vs' := by
  simp only [argsR, argR] at h
  obtain ⟨v, vs', rfl, ⟨cs, hc, hs⟩, h2⟩ := h
  obtain ⟨u, cs', rfl, hu, hn⟩ := repLs_cons.1 hc
  simp only [repLs] at hn
  subst hn
  simp only [slotV, Bool.false_eq_true, if_false] at hs
  obtain rfl : u = v := by simpa using hs
  exact ⟨u, vs', rfl, hu, h2⟩
theorem args_e {S : Nat → Prop} {W : World} {x : pts []} {vs : List Value} (h : argsR S W [] x vs) : vs = [] := h
theorem arr_of {vals : Array Value} {l : List Value} (h : vals.toList = l) : vals = l.toArray := by rw [← h]
theorem ct_lib {P : Program} {c : Ct} {w : World} (hf : FnIs P c.f)
    (h : ∀ (vals : Array Value) (x : pts c.ps) (S : Nat → Prop), (∀ b, S b → b < w.heap.size) → argsR S w c.ps x vals.toList → c.pre x →
      Calls P c.f vals w fun e w' => ∃ vs v, e = .returned v ∧ Below w.heap.size w w' ∧ retV vs v ∧ ∀ S', resR S' (fun _ => none) w' c.shared c.rs (c.F x) 0 vs) : CtAt P c w :=
  fun vals x S hS ha hp => ⟨hf, (h vals x S hS ha hp).mono fun e w' ⟨vs, v, he, hb, hv, hr⟩ => ⟨vs, v, fun _ => none, he, hb, hv, fun b hb => absurd rfl hb, hr _⟩⟩
theorem res_str {S : Nat → Prop} {col : Nat → Option Nat} {W : World} (x : ByteArray) : resR S col W false [(false, [.str])] (x : caps [[L.str]]) 0 [.string x] := by
  simp only [resR]
  exact ⟨_, _, [.string x], rfl, by simp only [outR]; exact ⟨_, _, rfl, rfl, rfl⟩, .inr rfl, rfl⟩
theorem res_int {S : Nat → Prop} {col : Nat → Option Nat} {W : World} {k : IntKind} (x : Int) : resR S col W false [(false, [.int k])] (x : caps [[L.int k]]) 0 [.int k x] := by
  simp only [resR]
  exact ⟨_, _, [.int k x], rfl, by simp only [outR]; exact ⟨_, _, rfl, rfl, rfl⟩, .inr rfl, rfl⟩
def itoaCt (f : FuncId) : Ct := { f, ps := [.v false .ro [.int .i64]], rs := [(false, [.str])], shared := false, pre := fun (x : Int) => pItoa x, F := fun (x : Int) => mItoa x }
theorem itoa_ct {P : Program} {f : FuncId} {w : World} (hf : FnIs P f)
    (hI : ∀ n : Int, -9223372036854775808 ≤ n → n ≤ 9223372036854775807 → Calls P f #[.int .i64 n] w fun e w' => e = .returned (.string ⟨(Lib.itoa n).toArray⟩) ∧ ∃ k os, w' = Sort.grow (w.drewN k) os) : CtAt P (itoaCt f) w := by
  refine ct_lib hf fun vals x S hS ha hp => ?_
  obtain ⟨v, vs', hv, h1, h2⟩ := args_v ha
  have h2 := args_e h2
  subst h2
  have h1 : v = .int .i64 x := h1
  subst h1
  rw [arr_of hv]
  refine (hI x hp.1 hp.2).mono fun e w' ⟨he, k, os, hw⟩ => ?_
  refine ⟨[.string (mItoa x)], _, he, ?_, Or.inl rfl, fun S' => res_str _⟩
  rw [hw]
  exact Lib.below_grow _ w (Nat.le_refl _) k os
end Go.Ev
end

section
/- Library functions: strings.Join, strings.Trim, strings.Cut, strings.IndexByte: contracts of the small machine. -/
set_option linter.unusedVariables false
namespace Go.Ev
open Go.RowKit
theorem cell_lt {w : World} {a : Addr} {v : Value} (h : w.cell? a = some v) : a.block < w.heap.size := by
  rcases Nat.lt_or_ge a.block w.heap.size with h' | h'
  · exact h'
  · unfold World.cell? at h
    rw [Array.getElem?_eq_none h'] at h
    simp at h
def indexByteCt (f : FuncId) : Ct := { f, ps := [.v false .ro [.str], .v false .ro [.int .u8]], rs := [(false, [.int .i64])], shared := false, pre := fun (x : S × Int) => pIndexByte x.1 x.2, F := fun (x : S × Int) => mIndexByte x.1 x.2 }
theorem indexByte_ct {P : Program} {f : FuncId} {w : World} (hf : FnIs P f)
    (hI : ∀ (s : ByteArray) (c : Int), Calls P f #[.string s, .int .u8 c] w fun e w' => e = .returned (.int .i64 (Lib.indexByte s.data.toList c.toNat.toUInt8)) ∧ w' = w) : CtAt P (indexByteCt f) w := by
  refine ct_lib hf fun vals x S hS ha hp => ?_
  obtain ⟨v, vs', hv, h1, h2⟩ := args_v ha
  obtain ⟨u, us', rfl, h3, h4⟩ := args_v h2
  have h4 := args_e h4
  subst h4
  have h1 : v = .string x.1 := h1
  have h3 : u = .int .u8 x.2 := h3
  subst h1; subst h3
  rw [arr_of hv]
  refine (hI x.1 x.2).mono fun e w' ⟨he, hw⟩ => ⟨[.int .i64 (mIndexByte x.1 x.2)], _, he, ?_, Or.inl rfl, fun S' => res_int _⟩
  rw [hw]; exact Below.refl _ _
def trimLCt (f : FuncId) : Ct := { f, ps := [.v false .ro [.str], .v false .ro [.str]], rs := [(false, [.str])], shared := false, pre := fun (x : S × S) => pTrimL x.1 x.2, F := fun (x : S × S) => mTrimL x.1 x.2 }
theorem trimL_ct {P : Program} {f : FuncId} {w : World} (hf : FnIs P f)
    (hI : ∀ (s cs : ByteArray), s.size ≤ 9223372036854775807 → cs.size < 4294967281 → (∀ (j : Nat) b, cs.data.toList[j]? = some b → b.toNat < 128) →
      Calls P f #[.string s, .string cs] w fun e w' => e = .returned (.string ⟨(Lib.trimS s.data.toList cs.data.toList).toArray⟩) ∧ Below w.heap.size w w') : CtAt P (trimLCt f) w := by
  refine ct_lib hf fun vals x S hS ha hp => ?_
  obtain ⟨v, vs', hv, h1, h2⟩ := args_v ha
  obtain ⟨u, us', rfl, h3, h4⟩ := args_v h2
  have h4 := args_e h4
  subst h4
  have h1 : v = .string x.1 := h1
  have h3 : u = .string x.2 := h3
  subst h1; subst h3
  rw [arr_of hv]
  have hp : x.1.size ≤ 1073741824 ∧ x.2 = lit [32, 9] := hp
  obtain ⟨hp1, hp2⟩ := hp
  have hall : ∀ b ∈ (lit [32, 9]).data.toList, b.toNat < 128 := by decide
  refine (hI x.1 x.2 (by omega) (by rw [hp2]; decide) (fun j b hb => by rw [hp2] at hb; exact hall b (List.mem_of_getElem? hb))).mono fun e w' ⟨he, hb⟩ => ⟨[.string (mTrimL x.1 x.2)], _, he, hb, Or.inl rfl, fun S' => res_str _⟩
def cutCt (f : FuncId) : Ct := { f, ps := [.v false .ro [.str], .v false .ro [.str]], rs := [(false, [.str]), (false, [.str]), (false, [.bool])], shared := false, pre := fun (x : S × S) => pCut x.1 x.2, F := fun (x : S × S) => mCut x.1 x.2 }
theorem cut_ct {P : Program} {f : FuncId} {w : World} (hf : FnIs P f)
    (hI : ∀ (s sep : ByteArray), s.size < 4294967281 →
      Calls P f #[.string s, .string sep] w fun e w' => e = .returned (.tuple #[.string ⟨(Lib.cut s.data.toList sep.data.toList).1.toArray⟩, .string ⟨(Lib.cut s.data.toList sep.data.toList).2.1.toArray⟩, .bool (Lib.cut s.data.toList sep.data.toList).2.2]) ∧ ∃ n, w' = w.drewN n) : CtAt P (cutCt f) w := by
  refine ct_lib hf fun vals x S hS ha hp => ?_
  obtain ⟨v, vs', hv, h1, h2⟩ := args_v ha
  obtain ⟨u, us', rfl, h3, h4⟩ := args_v h2
  have h4 := args_e h4
  subst h4
  have h1 : v = .string x.1 := h1
  have h3 : u = .string x.2 := h3
  subst h1; subst h3
  rw [arr_of hv]
  have hp : x.1.size ≤ 1073741824 := hp
  refine (hI x.1 x.2 (by omega)).mono fun e w' ⟨he, n, hw⟩ => ⟨[.string (mCut x.1 x.2).1, .string (mCut x.1 x.2).2.1, .bool (mCut x.1 x.2).2.2], _, he, ?_, Or.inr ⟨by simp, rfl⟩, fun S' => ?_⟩
  · rw [hw]
    exact ⟨rfl, rfl, rfl, Nat.le_refl _, fun _ _ => rfl⟩
  · simp only [cutCt, resR]
    refine ⟨_, _, [.string (mCut x.1 x.2).1], rfl, by simp only [outR]; exact ⟨_, _, rfl, rfl, rfl⟩, .inr rfl, ?_⟩
    refine ⟨_, _, [.string (mCut x.1 x.2).2.1], rfl, by simp only [outR]; exact ⟨_, _, rfl, rfl, rfl⟩, .inr rfl, ?_⟩
    exact ⟨_, _, [.bool (mCut x.1 x.2).2.2], rfl, by simp only [outR]; exact ⟨_, _, rfl, rfl, rfl⟩, .inr rfl, rfl⟩
theorem joinL_tail (sep : S) : ∀ (x : S) (r : List S), bs (joinL sep (x :: r)) = bs x ++ Lib.joinTail (bs sep) (r.map bs)
  | x, [] => by simp [joinL, Lib.joinTail]
  | x, y :: r => by
    rw [joinL, bs_append, bs_append, joinL_tail sep y r]
    simp only [Lib.joinTail, List.map_cons, List.flatten_cons, List.append_assoc]
theorem mJoin_lib (xs : List S) (sep : S) : mJoin xs sep = ob (Lib.join (xs.map bs) (bs sep)) := by
  cases xs with
  | nil => rfl
  | cons x r =>
    refine bs_inj ?_
    rw [bs_ob, mJoin, joinL_tail, List.map_cons, Lib.join_cons]
theorem lens_sum : ∀ xs : List S, Lib.lens (xs.map bs) = sumN (xs.map fun x => x.size)
  | [] => rfl
  | x :: r => by
    have := lens_sum r
    unfold Lib.lens at this ⊢
    simp only [List.map_cons, List.sum_cons, sumN, bs_len] at this ⊢
    omega
theorem join_core {P : Program} {f : FuncId} {w : World} {S : Nat → Prop} (hS : ∀ b, S b → b < w.heap.size)
    (h0 : ∀ (a : Option Addr) (c : Nat) (sep : ByteArray), Calls P f #[.slice a 0 c, .string sep] w fun e w' => e = .returned (.string ⟨#[]⟩) ∧ w' = w)
    (hI : ∀ (bk o c : Nat) (xs : List ByteArray) (sep : ByteArray), (∀ (j : Nat) x, xs[j]? = some x → w.cell? ⟨bk, o + j, none⟩ = some (.string x)) → bk < w.heap.size → xs.length ≤ 140737488355328 → xs.length ≤ c → (Lib.join (xs.map (·.data.toList)) sep.data.toList).length ≤ 140737488355328 →
      Calls P f #[.slice (some ⟨bk, o, none⟩) xs.length c, .string sep] w fun e w' => e = .returned (.string ⟨(Lib.join (xs.map (·.data.toList)) sep.data.toList).toArray⟩) ∧ Below w.heap.size w w')
    (xs : List ByteArray) (sep : ByteArray) (hp : pJoin xs sep) (A : Option Addr) (cap : Nat) (cs : List Value) (hcap : xs.length ≤ cap) (hcl : cs.length = xs.length * 1)
    (hA : 0 < xs.length * 1 → ∃ ad, A = some ad ∧ S ad.block ∧ ∀ (j : Nat) (u : Value), cs[j]? = some u → w.cell? (ad.add j) = some u)
    (hx : ∀ (i : Nat) (y : ByteArray), xs[i]? = some y → (cs.drop (i * 1)).take 1 = [.string y]) :
    Calls P f #[.slice A xs.length cap, .string sep] w fun e w' => e = .returned (.string (mJoin xs sep)) ∧ Below w.heap.size w w' := by
  obtain ⟨hp1, hp2, hp3⟩ := hp
  by_cases hn : xs.length = 0
  · have : xs = [] := List.length_eq_zero_iff.1 hn
    subst this
    refine (h0 A cap sep).mono fun e w' ⟨he, hw⟩ => ⟨he, ?_⟩
    rw [hw]; exact Below.refl _ _
  · obtain ⟨ad, rfl, hb, hcells⟩ := hA (by omega)
    have hget : ∀ (j : Nat) (y : ByteArray), xs[j]? = some y → w.cell? (ad.add j) = some (.string y) := fun j y hj => by
      refine hcells j _ ?_
      have := congrArg (·[0]?) (hx j y hj)
      simpa [List.getElem?_take, List.getElem?_drop] using this
    have hx0 : xs[0]? = some (xs[0]'(by omega)) := List.getElem?_eq_getElem (by omega)
    have hsp := World.cell?_spot (hget 0 _ hx0)
    have hadd : ∀ j, ad.add j = ⟨ad.block, ad.off + j, none⟩ := fun j => by
      have : ad.spot = none := by
        rw [addr_zero] at hsp; exact hsp
      obtain ⟨b, o, s⟩ := ad
      simp only at this
      subst this
      unfold Addr.add
      split
      · rename_i h; subst h; rfl
      · rfl
    have had : ad = ⟨ad.block, ad.off, none⟩ := by have := hadd 0; rw [addr_zero] at this; exact this
    have hjl : (Lib.join (xs.map (·.data.toList)) sep.data.toList).length ≤ 140737488355328 := by
      cases xs with
      | nil => simp at hn
      | cons y r =>
        have h6 := Lib.join_length (bs y) (r.map bs) (bs sep)
        have h7 := lens_sum (y :: r)
        have h8 : (bs sep).length ≤ 16 := by rw [bs_len]; exact hp3
        have h9 : (bs sep).length * (r.map bs).length ≤ 16 * r.length := by rw [List.length_map]; exact Nat.mul_le_mul_right _ h8
        have h10 : (Lib.join ((y :: r).map bs) (bs sep)).length ≤ 140737488355328 := by
          rw [List.map_cons, h6]
          rw [List.map_cons] at h7
          simp only [List.length_cons] at hp1
          omega
        exact h10
    rw [had]
    refine (hI ad.block ad.off cap xs sep (fun j y hj => by rw [← hadd j]; exact hget j y hj) (hS _ hb) (by omega) hcap hjl).mono fun e w' ⟨he, hbel⟩ => ⟨?_, hbel⟩
    rw [he, mJoin_lib]; rfl
def joinCt (e : TypeId) (f : FuncId) : Ct := { f, ps := [.v false .ro [.list e [.str]], .v false .ro [.str]], rs := [(false, [.str])], shared := false, pre := fun (x : List S × S) => pJoin x.1 x.2, F := fun (x : List S × S) => mJoin x.1 x.2 }
theorem join_row {w : World} {S : Nat → Prop} {e : TypeId} {p : Col} {xs : List ByteArray} {v : Value} (h : repL (roRow w S) (.list e [.str]) p (xs : List (dens [L.str])) v) :
    ∃ (A : Option Addr) (cap : Nat) (cs : List Value), v = .slice A xs.length cap ∧ xs.length ≤ cap ∧ cs.length = xs.length * 1 ∧ (0 < xs.length * 1 → ∃ ad, A = some ad ∧ S ad.block ∧ ∀ (j : Nat) (u : Value), cs[j]? = some u → w.cell? (ad.add j) = some u) ∧
      ∀ (i : Nat) (y : ByteArray), xs[i]? = some y → (cs.drop (i * 1)).take 1 = [.string y] := by
  simp only [repL] at h
  obtain ⟨cs, ⟨A, cap, hv, hcap, hA⟩, hcl, hx⟩ := h
  refine ⟨A, cap, cs, hv, hcap, hcl, hA, fun i y hi => ?_⟩
  have h5 := hx i y hi
  simp only [repLs, repL] at h5
  obtain ⟨v, hv, rfl⟩ := h5
  exact hv
theorem join_ct {P : Program} {e : TypeId} {f : FuncId} {w : World} (hf : FnIs P f)
    (h0 : ∀ (a : Option Addr) (c : Nat) (sep : ByteArray), Calls P f #[.slice a 0 c, .string sep] w fun e w' => e = .returned (.string ⟨#[]⟩) ∧ w' = w)
    (hI : ∀ (bk o c : Nat) (xs : List ByteArray) (sep : ByteArray), (∀ (j : Nat) x, xs[j]? = some x → w.cell? ⟨bk, o + j, none⟩ = some (.string x)) → bk < w.heap.size → xs.length ≤ 140737488355328 → xs.length ≤ c → (Lib.join (xs.map (·.data.toList)) sep.data.toList).length ≤ 140737488355328 →
      Calls P f #[.slice (some ⟨bk, o, none⟩) xs.length c, .string sep] w fun e w' => e = .returned (.string ⟨(Lib.join (xs.map (·.data.toList)) sep.data.toList).toArray⟩) ∧ Below w.heap.size w w') : CtAt P (joinCt e f) w := by
  refine ct_lib hf fun vals x S hS ha hp => ?_
  obtain ⟨v, vs', hv, h1, h2⟩ := args_v ha
  obtain ⟨u, us', rfl, h3, h4⟩ := args_v h2
  have h4 := args_e h4
  subst h4
  have h3 : u = .string x.2 := h3
  subst h3
  obtain ⟨A, cap, cs, rfl, hcap, hcl, hA, hx⟩ := join_row (xs := x.1) h1
  rw [arr_of hv]
  exact (join_core hS h0 hI x.1 x.2 hp A cap cs hcap hcl hA hx).mono fun e w' ⟨he, hb⟩ => ⟨[.string (mJoin x.1 x.2)], _, he, hb, Or.inl rfl, fun S' => res_str _⟩
end Go.Ev
end

section
/- Library functions: strconv.Atoi, strings.TrimLeft, strings.Split: contracts of the small machine; what their variables hold. -/
set_option linter.unusedVariables false
namespace Go.Ev
open Go.RowKit
def ErrAt (g : Nat) (w : World) : Prop := ∃ ev, w.cell? ⟨g, 0, none⟩ = some ev ∧ (ev = .nilIface ∨ ∃ te pe, ev = .iface te pe)
theorem errAt_below {g : Nat} {w w' : World} (h : ErrAt g w) (hb : Below w.heap.size w w') : ErrAt g w' := by
  obtain ⟨ev, h1, h2⟩ := h
  exact ⟨ev, (hb.cell (cell_lt h1)).trans h1, h2⟩
def NumAt (g : Nat) (w : World) : Prop := ∃ m, w.cell? ⟨g, 0, none⟩ = some (.int .i64 m)
theorem numAt_below {g : Nat} {w w' : World} (h : NumAt g w) (hb : Below w.heap.size w w') : NumAt g w' := by
  obtain ⟨m, hm⟩ := h
  exact ⟨m, (hb.cell (cell_lt hm)).trans hm⟩
def atoiV (s : S) : Int := match Lib.atoiAll (bs s) with
  | .ok v => v
  | .«syntax» => 0
  | .range => Lib.atoiSat (bs s)
def mAtoi (s : S) : Int × Unit := (atoiV s, ())
def pAtoi (s : S) : Prop := sm s
def atoiCt (f : FuncId) : Ct := { f, ps := [.v false .ro [.str]], rs := [(false, [.int .i64]), (false, [])], shared := false, pre := fun (x : S) => pAtoi x, F := fun (x : S) => mAtoi x }
theorem res_any {S : Nat → Prop} {col : Nat → Option Nat} {W : World} {k : IntKind} (x : Int) (v : Value) : resR S col W false [(false, [.int k]), (false, [])] ((x, ()) : Int × Unit) 0 [.int k x, v] := by
  simp only [resR]
  refine ⟨_, _, [.int k x], rfl, by simp only [outR]; exact ⟨_, _, rfl, rfl, rfl⟩, .inr rfl, ?_⟩
  exact ⟨_, _, [], rfl, rfl, .inl rfl, rfl⟩
theorem atoi_ct {P : Program} {f : FuncId} {w : World} {gS gR : Nat} (hf : FnIs P f) (hS : ErrAt gS w) (hR : ErrAt gR w)
    (hok : ∀ (s : ByteArray), s.size ≤ 9223372036854775806 → ∀ v, Lib.atoiAll s.data.toList = .ok v → Calls P f #[.string s] w fun e w' => e = .returned (.tuple #[.int .i64 v, .nilIface]) ∧ Below w.heap.size w w')
    (hsy : ∀ (s : ByteArray), s.size ≤ 281474976710656 → Lib.atoiAll s.data.toList = .«syntax» → ∀ ev, w.cell? ⟨gS, 0, none⟩ = some ev → (ev = .nilIface ∨ ∃ te pe, ev = .iface te pe) → Calls P f #[.string s] w fun e w' => ∃ u, e = .returned (.tuple #[.int .i64 0, u]) ∧ Below w.heap.size w w')
    (hra : ∀ (s : ByteArray), s.size ≤ 281474976710656 → Lib.atoiAll s.data.toList = .range → ∀ ev, w.cell? ⟨gR, 0, none⟩ = some ev → (ev = .nilIface ∨ ∃ te pe, ev = .iface te pe) → Calls P f #[.string s] w fun e w' => ∃ u, e = .returned (.tuple #[.int .i64 (Lib.atoiSat s.data.toList), u]) ∧ Below w.heap.size w w') : CtAt P (atoiCt f) w := by
  refine ct_lib hf fun vals x S hSS ha hp => ?_
  obtain ⟨v, vs', hv, h1, h2⟩ := args_v ha
  have h2 := args_e h2
  subst h2
  have h1 : v = .string x := h1
  subst h1
  rw [arr_of hv]
  have hp : x.size ≤ 1073741824 := hp
  cases hat : Lib.atoiAll x.data.toList with
  | ok n =>
    refine (hok x (by omega) n hat).mono fun e w' ⟨he, hb⟩ => ⟨[.int .i64 n, .nilIface], _, he, hb, Or.inr ⟨by simp, rfl⟩, fun S' => ?_⟩
    have e : atoiV x = n := by unfold atoiV bs; rw [hat]
    show resR S' _ _ false [(false, [.int .i64]), (false, [])] ((atoiV x, ()) : Int × Unit) 0 _
    rw [e]
    exact res_any n _
  | «syntax» =>
    obtain ⟨ev, c1, c2⟩ := hS
    refine (hsy x (by omega) hat ev c1 c2).mono fun e w' ⟨u, he, hb⟩ => ⟨[.int .i64 0, u], _, he, hb, Or.inr ⟨by simp, rfl⟩, fun S' => ?_⟩
    have e : atoiV x = 0 := by unfold atoiV bs; rw [hat]
    show resR S' _ _ false [(false, [.int .i64]), (false, [])] ((atoiV x, ()) : Int × Unit) 0 _
    rw [e]
    exact res_any 0 _
  | range =>
    obtain ⟨ev, c1, c2⟩ := hR
    refine (hra x (by omega) hat ev c1 c2).mono fun e w' ⟨u, he, hb⟩ => ⟨[.int .i64 (Lib.atoiSat x.data.toList), u], _, he, hb, Or.inr ⟨by simp, rfl⟩, fun S' => ?_⟩
    have e : atoiV x = Lib.atoiSat x.data.toList := by unfold atoiV bs; rw [hat]
    show resR S' _ _ false [(false, [.int .i64]), (false, [])] ((atoiV x, ()) : Int × Unit) 0 _
    rw [e]
    exact res_any _ _
def mTrimLeft (s cs : S) : S := ob (Lib.trimLeftB (bs s) 48)
def pTrimLeft (s cs : S) : Prop := sm s ∧ cs = lit [48]
def trimLeftCt (f : FuncId) : Ct := { f, ps := [.v false .ro [.str], .v false .ro [.str]], rs := [(false, [.str])], shared := false, pre := fun (x : S × S) => pTrimLeft x.1 x.2, F := fun (x : S × S) => mTrimLeft x.1 x.2 }
theorem trimLeft_ct {P : Program} {f : FuncId} {w : World} (hf : FnIs P f)
    (hI : ∀ s : ByteArray, Calls P f #[.string s, .string ⟨#[48]⟩] w fun e w' => e = .returned (.string ⟨(Lib.trimLeftB s.data.toList 48).toArray⟩) ∧ w' = w) : CtAt P (trimLeftCt f) w := by
  refine ct_lib hf fun vals x S hSS ha hp => ?_
  obtain ⟨v, vs', hv, h1, h2⟩ := args_v ha
  obtain ⟨v2, vs2, hv2, h3, h4⟩ := args_v h2
  have h4 := args_e h4
  subst h4; subst hv2
  have h1 : v = .string x.1 := h1
  have h3 : v2 = .string x.2 := h3
  subst h1; subst h3
  rw [arr_of hv]
  obtain ⟨hp1, hp2⟩ := (hp : sm x.1 ∧ x.2 = lit [48])
  rw [hp2]
  refine (hI x.1).mono fun e w' ⟨he, hw⟩ => ⟨[.string (mTrimLeft x.1 x.2)], _, he, ?_, Or.inl rfl, fun S' => res_str _⟩
  rw [hw]
  exact Below.refl _ _
def mSplit (s sep : S) : List S := Lib.splitB sep 0 (Lib.countB s sep) s
def pSplit (s sep : S) : Prop := sm s ∧ sep = lit [32]
end Go.Ev
end

section
/- The plain library: what the functions of dates compute. -/
set_option linter.unusedVariables false
namespace Go.Ev
def mIsLeap (y : Int) : Bool := decide (y % 4 = 0) && (decide (y % 100 ≠ 0) || decide (y % 400 = 0))
def pIsLeap (y : Int) : Prop := 0 ≤ y
def mL4Months (y : Int) : List Int := if mIsLeap y = true then [31, 29, 31, 30, 31, 30, 31, 31, 30, 31, 30, 31] else [31, 28, 31, 30, 31, 30, 31, 31, 30, 31, 30, 31]
def pL4Months (y : Int) : Prop := 0 ≤ y
def mMonthDays (y m : Int) : Int := rx (mL4Months y) (m - 1)
def pMonthDays (y m : Int) : Prop := 0 ≤ y ∧ 1 ≤ m ∧ m ≤ 12
def mYearDays (y : Int) : Int := if mIsLeap y = true then 366 else 365
def pYearDays (y : Int) : Prop := 0 ≤ y
def daysY : Nat → Int
  | 0 => 0
  | k + 1 => daysY k + mYearDays (1970 + (k : Int))
def daysM (y : Int) : Nat → Int
  | 0 => 0
  | k + 1 => daysM y k + mMonthDays y ((k : Int) + 1)
def mDaysOf (y m d : Int) : Int := if (mIn y 1970 2037 && mIn m 1 12 && mIn d 1 (mMonthDays y m)) = true then d - 1 + daysY (y - 1970).toNat + daysM y (m - 1).toNat else -1
def pDaysOf (y m d : Int) : Prop := True
def twoL (n : Nat) : List UInt8 := [UInt8.ofNat (48 + n / 10), UInt8.ofNat (48 + n % 10)]
def mTwo (n : Int) : S := ob (twoL n.toNat)
def pTwo (n : Int) : Prop := 0 ≤ n ∧ n ≤ 99
def mL4Two (n : Int) : S := mTwo n
def pL4Two (n : Int) : Prop := 0 ≤ n ∧ n ≤ 99
def weekL : List S := [(lit [84, 104, 117]), (lit [70, 114, 105]), (lit [83, 97, 116]), (lit [83, 117, 110]), (lit [77, 111, 110]), (lit [84, 117, 101]), (lit [87, 101, 100])]
def monthL : List S := [(lit [74, 97, 110]), (lit [70, 101, 98]), (lit [77, 97, 114]), (lit [65, 112, 114]), (lit [77, 97, 121]), (lit [74, 117, 110]), (lit [74, 117, 108]), (lit [65, 117, 103]), (lit [83, 101, 112]), (lit [79, 99, 116]), (lit [78, 111, 118]), (lit [68, 101, 99])]
def mMonths (_ : Unit) : List S := monthL
def pMonths (_ : Unit) : Prop := True
def yearL (y : Nat) : List UInt8 := [UInt8.ofNat (48 + y / 1000), UInt8.ofNat (48 + y / 100 % 10), UInt8.ofNat (48 + y / 10 % 10), UInt8.ofNat (48 + y % 10)]
def showT (a y j d : Int) : S :=
  ((((((((((((((rx weekL (a / 86400 % 7)) ++ (lit [44, 32])) ++ mTwo d) ++ (lit [32])) ++ rx monthL j) ++ (lit [32])) ++ mDec y) ++ (lit [32])) ++ mTwo (a / 3600 % 24)) ++ (lit [58])) ++ mTwo (a / 60 % 60)) ++ (lit [58])) ++ mTwo (a % 60)) ++ (lit [32, 71, 77, 84]))
def civil (n : Int) (k j : Nat) : Prop := k < 67 ∧ j < 12 ∧ daysY k + daysM (1970 + (k : Int)) j ≤ n ∧ n < daysY k + daysM (1970 + (k : Int)) (j + 1)
open Classical in
noncomputable def mShowDate (a : Int) : S :=
  if h : 0 ≤ a ∧ a ≤ 2000000000 ∧ ∃ p : Nat × Nat, civil (a / 86400) p.1 p.2 then
    showT a (1970 + ((Classical.choose h.2.2).1 : Int)) ((Classical.choose h.2.2).2 : Int) (a / 86400 - daysY (Classical.choose h.2.2).1 - daysM (1970 + ((Classical.choose h.2.2).1 : Int)) (Classical.choose h.2.2).2 + 1)
  else lit []
def pShowDate (a : Int) : Prop := in64 a
end Go.Ev
end

section
/- The plain library: how dates and seconds are read. -/
set_option linter.unusedVariables false
namespace Go.Ev
def isDig (b : UInt8) : Bool := decide (48 ≤ b.toNat ∧ b.toNat ≤ 57)
def valFrom (a : Nat) (l : List UInt8) : Nat := l.foldl (fun a b => a * 10 + (b.toNat - 48)) a
def valL (l : List UInt8) : Nat := valFrom 0 l
def numL (l : List UInt8) : Int := if l.all isDig = true then (valL l : Int) else -1
def mL4Num (s : S) (i n : Int) : Int := numL (((bs s).drop i.toNat).take n.toNat)
def pL4Num (s : S) (i n : Int) : Prop := 0 ≤ i ∧ 0 ≤ n ∧ n ≤ 4 ∧ i + n ≤ (s.size : Int) ∧ sm s
def mNumber (s : S) : Int := if (bs s).all isDig = true then atoiV s else -1
def pNumber (s : S) : Prop := sm s
def isDate (s : S) (t : Int) : Prop := 0 ≤ t ∧ t ≤ 2000000000 ∧ mShowDate t = s
open Classical in
noncomputable def mReadDate (s : S) : Int × Bool := if h : ∃ t, isDate s t then (Classical.choose h, true) else (0, false)
def pReadDate (s : S) : Prop := sm s
noncomputable def mDateOf (l : List Fld) (n : S) : Int × Bool := if (mFieldGet l n).2 = true then mReadDate (mFieldGet l n).1 else (0, false)
def pDateOf (l : List Fld) (n : S) : Prop := md l
def mSeconds (s : S) : Int × Bool := if (bs s).all isDig = true ∧ s.size ≠ 0 then ((min (valL (bs s)) 2147483648 : Nat), true) else (0, false)
def pSeconds (s : S) : Prop := sm s
def monU (n : S) : Nat → Int
  | 0 => 0
  | i + 1 => if n = rx monthL (i : Int) then ((i + 1 : Nat) : Int) else monU n i
end Go.Ev
end

section
/- The plain library: lifetimes, ages, what is fresh, what is not modified. -/
set_option linter.unusedVariables false
namespace Go.Ev
def sDate : S := lit [100, 97, 116, 101]
def sLast : S := lit [108, 97, 115, 116, 45, 109, 111, 100, 105, 102, 105, 101, 100]
def sMinFresh : S := lit [109, 105, 110, 45, 102, 114, 101, 115, 104]
noncomputable def ccF (n : S) (x : Int × Bool) (d : Fld) : Int × Bool := if d.1 = n then ((if (mSeconds d.2).1 < x.1 then (mSeconds d.2).1 else x.1), true) else x
noncomputable def ccFold (n : S) (l : List Fld) : Int × Bool := l.foldl (ccF n) (2147483648, false)
noncomputable def mCcSeconds (l : List Fld) (n : S) : Int × Bool := if (ccFold n (mDirectives l)).2 = true then ((ccFold n (mDirectives l)).1, true) else (0, false)
def pCcSeconds (l : List Fld) (n : S) : Prop := md l
def mLater (a b : Int) : Int := if b < 0 then 0 else if a ≤ b then 0 else a - b
def pLater (a b : Int) : Prop := in64 a ∧ in64 b
def mSatAdd (a b : Int) : Int := if 2147483648 < mWithin a + mWithin b then 2147483648 else mWithin a + mWithin b
def pSatAdd (a b : Int) : Prop := True
noncomputable def mFirstAge (r : Rsp) (a1 a2 : Int) : Int :=
  if (if (mDateOf r.2.1 sDate).2 = true then mWithin (mLater a2 (mDateOf r.2.1 sDate).1) else 0) < mSatAdd (mSeconds (mFieldGet r.2.1 sAge).1).1 (mLater a2 a1) then mSatAdd (mSeconds (mFieldGet r.2.1 sAge).1).1 (mLater a2 a1)
  else (if (mDateOf r.2.1 sDate).2 = true then mWithin (mLater a2 (mDateOf r.2.1 sDate).1) else 0)
def pFirstAge (r : Rsp) (a1 a2 : Int) : Prop := md r.2.1 ∧ in64 a1 ∧ in64 a2
noncomputable def mAgeAt (r : Rsp) (a1 a2 a3 : Int) : Int := mSatAdd (mFirstAge r a1 a2) (mLater a3 a2)
def pAgeAt (r : Rsp) (a1 a2 a3 : Int) : Prop := md r.2.1 ∧ in64 a1 ∧ in64 a2 ∧ in64 a3
open Classical in
noncomputable def mLifetime (r : Rsp) : Int :=
  if (mCcSeconds r.2.1 sSMaxAge).2 = true then (mCcSeconds r.2.1 sSMaxAge).1
  else if (mCcSeconds r.2.1 sMaxAge).2 = true then (mCcSeconds r.2.1 sMaxAge).1
  else if (mFieldGet r.2.1 sExpires).2 = true then
    (if (mDateOf r.2.1 sExpires).2 = true ∧ (mDateOf r.2.1 sDate).2 = true then mLater (mDateOf r.2.1 sExpires).1 (mDateOf r.2.1 sDate).1 else 0)
  else (if (mDateOf r.2.1 sLast).2 = true ∧ (mDateOf r.2.1 sDate).2 = true then (mLater (mDateOf r.2.1 sDate).1 (mDateOf r.2.1 sLast).1).tdiv 10 else 0)
def pLifetime (r : Rsp) : Prop := md r.2.1
noncomputable def mMustCheck (q : Req) (r : Rsp) (a1 a2 a3 : Int) : Bool :=
  mCcHas q.2.2.1 sNoCache || (mCcHas r.2.1 sNoCache || (((mCcSeconds q.2.2.1 sMaxAge).2 && decide ((mCcSeconds q.2.2.1 sMaxAge).1 < mAgeAt r a1 a2 a3)) ||
    (((mCcSeconds q.2.2.1 sMinFresh).2 && decide (mLifetime r < mSatAdd (mAgeAt r a1 a2 a3) (mCcSeconds q.2.2.1 sMinFresh).1)) || decide (mLifetime r ≤ mAgeAt r a1 a2 a3))))
def pMustCheck (q : Req) (r : Rsp) (a1 a2 a3 : Int) : Prop := md q.2.2.1 ∧ md r.2.1 ∧ in64 a1 ∧ in64 a2 ∧ in64 a3
end Go.Ev
end

section
/- What the program's functions come to, each by itself: printed by a program of this session's own (EwShow) out of the small machine. -/
set_option linter.unusedVariables false
namespace Go.Ev

def s_impl_AgeAt (a0 : Rsp) (a1 : Int) (a2 : Int) (a3 : Int) (Q : (Int → Prop)) : Prop :=
  pFirstAge a0 a1 a2 ∧
  pLater a3 a2 ∧
  pSatAdd (mFirstAge a0 a1 a2) (mLater a3 a2) ∧
  (Q (mSatAdd (mFirstAge a0 a1 a2) (mLater a3 a2)))

def s_impl_CcSeconds (a0 : (List Fld)) (a1 : S) (Q : ((Int × Bool) → Prop)) : Prop :=
  pDirectives a0 ∧
  (∀ L0 : ((Int × (Bool × Int)) → Prop),
    ((
        (∀ y1 : (Int × (Bool × Int)),
          ((
              (y1.2.2 < ((mDirectives a0).length : Int) →
                0 ≤ y1.2.2 ∧
                y1.2.2 < ((mDirectives a0).length : Int) ∧
                ((rx (mDirectives a0) y1.2.2).1 ≠ a1 →
                  (L0 (y1.1, y1.2.1, (IntKind.i64.wrap (y1.2.2 + 1))))) ∧
                (¬ ((rx (mDirectives a0) y1.2.2).1 ≠ a1) →
                  pSeconds (rx (mDirectives a0) y1.2.2).2 ∧
                  (¬ (y1.2.1 = true) →
                    (L0 ((mSeconds (rx (mDirectives a0) y1.2.2).2).1, true, (IntKind.i64.wrap (y1.2.2 + 1))))) ∧
                  (¬ (¬ (y1.2.1 = true)) →
                    ((mSeconds (rx (mDirectives a0) y1.2.2).2).1 < y1.1 →
                      (L0 ((mSeconds (rx (mDirectives a0) y1.2.2).2).1, true, (IntKind.i64.wrap (y1.2.2 + 1))))) ∧
                    (¬ ((mSeconds (rx (mDirectives a0) y1.2.2).2).1 < y1.1) →
                      (L0 (y1.1, true, (IntKind.i64.wrap (y1.2.2 + 1)))))))) ∧
              (¬ (y1.2.2 < ((mDirectives a0).length : Int)) →
                (Q (y1.1, y1.2.1)))
            ) →
            (L0 y1)))
      ) →
      (L0 (0, false, 0))))

def s_impl_FirstAge (a0 : Rsp) (a1 : Int) (a2 : Int) (Q : (Int → Prop)) : Prop :=
  pDateOf a0.2.1 (lit [100, 97, 116, 101]) ∧
  ((mDateOf a0.2.1 (lit [100, 97, 116, 101])).2 = true →
    pLater a2 (mDateOf a0.2.1 (lit [100, 97, 116, 101])).1 ∧
    pWithin (mLater a2 (mDateOf a0.2.1 (lit [100, 97, 116, 101])).1) ∧
    pFieldGet a0.2.1 (lit [97, 103, 101]) ∧
    pSeconds (mFieldGet a0.2.1 (lit [97, 103, 101])).1 ∧
    pLater a2 a1 ∧
    pSatAdd (mSeconds (mFieldGet a0.2.1 (lit [97, 103, 101])).1).1 (mLater a2 a1) ∧
    (Q (if (mWithin (mLater a2 (mDateOf a0.2.1 (lit [100, 97, 116, 101])).1)) < (mSatAdd (mSeconds (mFieldGet a0.2.1 (lit [97, 103, 101])).1).1 (mLater a2 a1)) then (mSatAdd (mSeconds (mFieldGet a0.2.1 (lit [97, 103, 101])).1).1 (mLater a2 a1)) else (mWithin (mLater a2 (mDateOf a0.2.1 (lit [100, 97, 116, 101])).1))))) ∧
  (¬ ((mDateOf a0.2.1 (lit [100, 97, 116, 101])).2 = true) →
    pFieldGet a0.2.1 (lit [97, 103, 101]) ∧
    pSeconds (mFieldGet a0.2.1 (lit [97, 103, 101])).1 ∧
    pLater a2 a1 ∧
    pSatAdd (mSeconds (mFieldGet a0.2.1 (lit [97, 103, 101])).1).1 (mLater a2 a1) ∧
    (Q (if 0 < (mSatAdd (mSeconds (mFieldGet a0.2.1 (lit [97, 103, 101])).1).1 (mLater a2 a1)) then (mSatAdd (mSeconds (mFieldGet a0.2.1 (lit [97, 103, 101])).1).1 (mLater a2 a1)) else 0)))

def s_impl_Lifetime (a0 : Rsp) (Q : (Int → Prop)) : Prop :=
  (∀ L0 : (Int → Prop),
    ((
        (∀ y1 : Int,
          ((
              (y1 < ([(lit [115, 45, 109, 97, 120, 97, 103, 101]), (lit [109, 97, 120, 45, 97, 103, 101])].length : Int) →
                0 ≤ y1 ∧
                y1 < ([(lit [115, 45, 109, 97, 120, 97, 103, 101]), (lit [109, 97, 120, 45, 97, 103, 101])].length : Int) ∧
                pCcSeconds a0.2.1 (rx [(lit [115, 45, 109, 97, 120, 97, 103, 101]), (lit [109, 97, 120, 45, 97, 103, 101])] y1) ∧
                ((mCcSeconds a0.2.1 (rx [(lit [115, 45, 109, 97, 120, 97, 103, 101]), (lit [109, 97, 120, 45, 97, 103, 101])] y1)).2 = true →
                  (Q (mCcSeconds a0.2.1 (rx [(lit [115, 45, 109, 97, 120, 97, 103, 101]), (lit [109, 97, 120, 45, 97, 103, 101])] y1)).1)) ∧
                (¬ ((mCcSeconds a0.2.1 (rx [(lit [115, 45, 109, 97, 120, 97, 103, 101]), (lit [109, 97, 120, 45, 97, 103, 101])] y1)).2 = true) →
                  (L0 (IntKind.i64.wrap (y1 + 1))))) ∧
              (¬ (y1 < ([(lit [115, 45, 109, 97, 120, 97, 103, 101]), (lit [109, 97, 120, 45, 97, 103, 101])].length : Int)) →
                pDateOf a0.2.1 (lit [100, 97, 116, 101]) ∧
                pHasField a0.2.1 (lit [101, 120, 112, 105, 114, 101, 115]) ∧
                ((mHasField a0.2.1 (lit [101, 120, 112, 105, 114, 101, 115])) = true →
                  pDateOf a0.2.1 (lit [101, 120, 112, 105, 114, 101, 115]) ∧
                  (¬ ((mDateOf a0.2.1 (lit [101, 120, 112, 105, 114, 101, 115])).2 = true) →
                    (Q 0)) ∧
                  (¬ (¬ ((mDateOf a0.2.1 (lit [101, 120, 112, 105, 114, 101, 115])).2 = true)) →
                    (¬ ((mDateOf a0.2.1 (lit [100, 97, 116, 101])).2 = true) →
                      (Q 0)) ∧
                    (¬ (¬ ((mDateOf a0.2.1 (lit [100, 97, 116, 101])).2 = true)) →
                      pLater (mDateOf a0.2.1 (lit [101, 120, 112, 105, 114, 101, 115])).1 (mDateOf a0.2.1 (lit [100, 97, 116, 101])).1 ∧
                      (Q (mLater (mDateOf a0.2.1 (lit [101, 120, 112, 105, 114, 101, 115])).1 (mDateOf a0.2.1 (lit [100, 97, 116, 101])).1))))) ∧
                (¬ ((mHasField a0.2.1 (lit [101, 120, 112, 105, 114, 101, 115])) = true) →
                  pDateOf a0.2.1 (lit [108, 97, 115, 116, 45, 109, 111, 100, 105, 102, 105, 101, 100]) ∧
                  (¬ ((mDateOf a0.2.1 (lit [108, 97, 115, 116, 45, 109, 111, 100, 105, 102, 105, 101, 100])).2 = true) →
                    (Q 0)) ∧
                  (¬ (¬ ((mDateOf a0.2.1 (lit [108, 97, 115, 116, 45, 109, 111, 100, 105, 102, 105, 101, 100])).2 = true)) →
                    (¬ ((mDateOf a0.2.1 (lit [100, 97, 116, 101])).2 = true) →
                      (Q 0)) ∧
                    (¬ (¬ ((mDateOf a0.2.1 (lit [100, 97, 116, 101])).2 = true)) →
                      pLater (mDateOf a0.2.1 (lit [100, 97, 116, 101])).1 (mDateOf a0.2.1 (lit [108, 97, 115, 116, 45, 109, 111, 100, 105, 102, 105, 101, 100])).1 ∧
                      (10 : Int) ≠ 0 ∧
                      (Q (IntKind.i64.wrap ((mLater (mDateOf a0.2.1 (lit [100, 97, 116, 101])).1 (mDateOf a0.2.1 (lit [108, 97, 115, 116, 45, 109, 111, 100, 105, 102, 105, 101, 100])).1).tdiv 10)))))))
            ) →
            (L0 y1)))
      ) →
      (L0 0)))

def s_impl_MustCheck (a0 : Req) (a1 : Rsp) (a2 : Int) (a3 : Int) (a4 : Int) (Q : (Bool → Prop)) : Prop :=
  pCcHas a0.2.2.1 (lit [110, 111, 45, 99, 97, 99, 104, 101]) ∧
  ((mCcHas a0.2.2.1 (lit [110, 111, 45, 99, 97, 99, 104, 101])) = true →
    (Q true)) ∧
  (¬ ((mCcHas a0.2.2.1 (lit [110, 111, 45, 99, 97, 99, 104, 101])) = true) →
    pCcHas a1.2.1 (lit [110, 111, 45, 99, 97, 99, 104, 101]) ∧
    ((mCcHas a1.2.1 (lit [110, 111, 45, 99, 97, 99, 104, 101])) = true →
      (Q true)) ∧
    (¬ ((mCcHas a1.2.1 (lit [110, 111, 45, 99, 97, 99, 104, 101])) = true) →
      pAgeAt a1 a2 a3 a4 ∧
      pLifetime a1 ∧
      pCcSeconds a0.2.2.1 (lit [109, 97, 120, 45, 97, 103, 101]) ∧
      ((mCcSeconds a0.2.2.1 (lit [109, 97, 120, 45, 97, 103, 101])).2 = true →
        ((mCcSeconds a0.2.2.1 (lit [109, 97, 120, 45, 97, 103, 101])).1 < (mAgeAt a1 a2 a3 a4) →
          (Q true)) ∧
        (¬ ((mCcSeconds a0.2.2.1 (lit [109, 97, 120, 45, 97, 103, 101])).1 < (mAgeAt a1 a2 a3 a4)) →
          pCcSeconds a0.2.2.1 (lit [109, 105, 110, 45, 102, 114, 101, 115, 104]) ∧
          ((mCcSeconds a0.2.2.1 (lit [109, 105, 110, 45, 102, 114, 101, 115, 104])).2 = true →
            pSatAdd (mAgeAt a1 a2 a3 a4) (mCcSeconds a0.2.2.1 (lit [109, 105, 110, 45, 102, 114, 101, 115, 104])).1 ∧
            ((mLifetime a1) < (mSatAdd (mAgeAt a1 a2 a3 a4) (mCcSeconds a0.2.2.1 (lit [109, 105, 110, 45, 102, 114, 101, 115, 104])).1) →
              (Q true)) ∧
            (¬ ((mLifetime a1) < (mSatAdd (mAgeAt a1 a2 a3 a4) (mCcSeconds a0.2.2.1 (lit [109, 105, 110, 45, 102, 114, 101, 115, 104])).1)) →
              (Q (decide ((mLifetime a1) ≤ (mAgeAt a1 a2 a3 a4)))))) ∧
          (¬ ((mCcSeconds a0.2.2.1 (lit [109, 105, 110, 45, 102, 114, 101, 115, 104])).2 = true) →
            (Q (decide ((mLifetime a1) ≤ (mAgeAt a1 a2 a3 a4))))))) ∧
      (¬ ((mCcSeconds a0.2.2.1 (lit [109, 97, 120, 45, 97, 103, 101])).2 = true) →
        pCcSeconds a0.2.2.1 (lit [109, 105, 110, 45, 102, 114, 101, 115, 104]) ∧
        ((mCcSeconds a0.2.2.1 (lit [109, 105, 110, 45, 102, 114, 101, 115, 104])).2 = true →
          pSatAdd (mAgeAt a1 a2 a3 a4) (mCcSeconds a0.2.2.1 (lit [109, 105, 110, 45, 102, 114, 101, 115, 104])).1 ∧
          ((mLifetime a1) < (mSatAdd (mAgeAt a1 a2 a3 a4) (mCcSeconds a0.2.2.1 (lit [109, 105, 110, 45, 102, 114, 101, 115, 104])).1) →
            (Q true)) ∧
          (¬ ((mLifetime a1) < (mSatAdd (mAgeAt a1 a2 a3 a4) (mCcSeconds a0.2.2.1 (lit [109, 105, 110, 45, 102, 114, 101, 115, 104])).1)) →
            (Q (decide ((mLifetime a1) ≤ (mAgeAt a1 a2 a3 a4)))))) ∧
        (¬ ((mCcSeconds a0.2.2.1 (lit [109, 105, 110, 45, 102, 114, 101, 115, 104])).2 = true) →
          (Q (decide ((mLifetime a1) ≤ (mAgeAt a1 a2 a3 a4))))))))

def s_impl_SatAdd (a0 : Int) (a1 : Int) (Q : (Int → Prop)) : Prop :=
  pWithin a0 ∧
  pWithin a1 ∧
  (Q (if 2147483648 < (IntKind.i64.wrap ((mWithin a0) + (mWithin a1))) then 2147483648 else (IntKind.i64.wrap ((mWithin a0) + (mWithin a1)))))

def s_impl_later (a0 : Int) (a1 : Int) (Q : (Int → Prop)) : Prop :=
  (a1 < 0 →
    (Q 0)) ∧
  (¬ (a1 < 0) →
    (a0 ≤ a1 →
      (Q 0)) ∧
    (¬ (a0 ≤ a1) →
      (Q (IntKind.i64.wrap (a0 - a1)))))

def s_laws_FnExactMustCheck (a0 : Req) (a1 : Rsp) (a2 : Int) (a3 : Int) (a4 : Int) (Q : (Bool → Prop)) : Prop :=
  pSz a0 1048576 ∧
  ((szF a0 1048576) < 0 →
    (Q true)) ∧
  (¬ ((szF a0 1048576) < 0) →
    pSz a1 (szF a0 1048576) ∧
    ((szF a1 (szF a0 1048576)) < 0 →
      (Q true)) ∧
    (¬ ((szF a1 (szF a0 1048576)) < 0) →
      pTo a0 ∧
      pTo a1 ∧
      pMustCheck (toF a0) (toF a1) a2 a3 a4 ∧
      pTo a0 ∧
      pTo a1 ∧
      pMustCheck (toF a0) (toF a1) a2 a3 a4 ∧
      ((mMustCheck (toF a0) (toF a1) a2 a3 a4) ≠ (mMustCheck (toF a0) (toF a1) a2 a3 a4) →
        (Q false)) ∧
      (¬ ((mMustCheck (toF a0) (toF a1) a2 a3 a4) ≠ (mMustCheck (toF a0) (toF a1) a2 a3 a4)) →
        pTo a0 ∧
        pEq (toF a0) (toF a0) ∧
        (¬ ((eqF (toF a0) (toF a0)) = true) →
          (Q false)) ∧
        (¬ (¬ ((eqF (toF a0) (toF a0)) = true)) →
          pTo a1 ∧
          pEq (toF a1) (toF a1) ∧
          (¬ ((eqF (toF a1) (toF a1)) = true) →
            (Q false)) ∧
          (¬ (¬ ((eqF (toF a1) (toF a1)) = true)) →
            (Q true))))))

def s_spec_AgeAt (a0 : Rsp) (a1 : Int) (a2 : Int) (a3 : Int) (Q : (Int → Prop)) : Prop :=
  (a2 < a3 →
    (0 ≤ a2 →
      pFirstAge a0 a1 a2 ∧
      pSatAdd (mFirstAge a0 a1 a2) (IntKind.i64.wrap (a3 - a2)) ∧
      (Q (mSatAdd (mFirstAge a0 a1 a2) (IntKind.i64.wrap (a3 - a2))))) ∧
    (¬ (0 ≤ a2) →
      pFirstAge a0 a1 a2 ∧
      pSatAdd (mFirstAge a0 a1 a2) 0 ∧
      (Q (mSatAdd (mFirstAge a0 a1 a2) 0)))) ∧
  (¬ (a2 < a3) →
    pFirstAge a0 a1 a2 ∧
    pSatAdd (mFirstAge a0 a1 a2) 0 ∧
    (Q (mSatAdd (mFirstAge a0 a1 a2) 0)))

def s_spec_CcSeconds (a0 : (List Fld)) (a1 : S) (Q : ((Int × Bool) → Prop)) : Prop :=
  pDirectives a0 ∧
  (∀ L0 : ((Int × (Bool × Int)) → Prop),
    ((
        (∀ y1 : (Int × (Bool × Int)),
          ((
              (y1.2.2 < ((mDirectives a0).length : Int) →
                0 ≤ y1.2.2 ∧
                y1.2.2 < ((mDirectives a0).length : Int) ∧
                ((rx (mDirectives a0) y1.2.2).1 = a1 →
                  0 ≤ y1.2.2 ∧
                  y1.2.2 < ((mDirectives a0).length : Int) ∧
                  pSeconds (rx (mDirectives a0) y1.2.2).2 ∧
                  (L0 ((if (mSeconds (rx (mDirectives a0) y1.2.2).2).1 < y1.1 then (mSeconds (rx (mDirectives a0) y1.2.2).2).1 else y1.1), true, (IntKind.i64.wrap (y1.2.2 + 1))))) ∧
                (¬ ((rx (mDirectives a0) y1.2.2).1 = a1) →
                  (L0 (y1.1, y1.2.1, (IntKind.i64.wrap (y1.2.2 + 1)))))) ∧
              (¬ (y1.2.2 < ((mDirectives a0).length : Int)) →
                (¬ (y1.2.1 = true) →
                  (Q (0, false))) ∧
                (¬ (¬ (y1.2.1 = true)) →
                  (Q (y1.1, true))))
            ) →
            (L0 y1)))
      ) →
      (L0 (2147483648, false, 0))))

def s_spec_FirstAge (a0 : Rsp) (a1 : Int) (a2 : Int) (Q : (Int → Prop)) : Prop :=
  pFieldGet a0.2.1 (lit [97, 103, 101]) ∧
  pSeconds (mFieldGet a0.2.1 (lit [97, 103, 101])).1 ∧
  pDateOf a0.2.1 (lit [100, 97, 116, 101]) ∧
  ((mDateOf a0.2.1 (lit [100, 97, 116, 101])).2 = true →
    ((mDateOf a0.2.1 (lit [100, 97, 116, 101])).1 < a2 →
      (a1 < a2 →
        (0 ≤ a1 →
          pSatAdd (mSeconds (mFieldGet a0.2.1 (lit [97, 103, 101])).1).1 (IntKind.i64.wrap (a2 - a1)) ∧
          (Q (if (if 2147483648 < (IntKind.i64.wrap (a2 - (mDateOf a0.2.1 (lit [100, 97, 116, 101])).1)) then 2147483648 else (IntKind.i64.wrap (a2 - (mDateOf a0.2.1 (lit [100, 97, 116, 101])).1))) < (mSatAdd (mSeconds (mFieldGet a0.2.1 (lit [97, 103, 101])).1).1 (IntKind.i64.wrap (a2 - a1))) then (mSatAdd (mSeconds (mFieldGet a0.2.1 (lit [97, 103, 101])).1).1 (IntKind.i64.wrap (a2 - a1))) else (if 2147483648 < (IntKind.i64.wrap (a2 - (mDateOf a0.2.1 (lit [100, 97, 116, 101])).1)) then 2147483648 else (IntKind.i64.wrap (a2 - (mDateOf a0.2.1 (lit [100, 97, 116, 101])).1)))))) ∧
        (¬ (0 ≤ a1) →
          pSatAdd (mSeconds (mFieldGet a0.2.1 (lit [97, 103, 101])).1).1 0 ∧
          (Q (if (if 2147483648 < (IntKind.i64.wrap (a2 - (mDateOf a0.2.1 (lit [100, 97, 116, 101])).1)) then 2147483648 else (IntKind.i64.wrap (a2 - (mDateOf a0.2.1 (lit [100, 97, 116, 101])).1))) < (mSatAdd (mSeconds (mFieldGet a0.2.1 (lit [97, 103, 101])).1).1 0) then (mSatAdd (mSeconds (mFieldGet a0.2.1 (lit [97, 103, 101])).1).1 0) else (if 2147483648 < (IntKind.i64.wrap (a2 - (mDateOf a0.2.1 (lit [100, 97, 116, 101])).1)) then 2147483648 else (IntKind.i64.wrap (a2 - (mDateOf a0.2.1 (lit [100, 97, 116, 101])).1))))))) ∧
      (¬ (a1 < a2) →
        pSatAdd (mSeconds (mFieldGet a0.2.1 (lit [97, 103, 101])).1).1 0 ∧
        (Q (if (if 2147483648 < (IntKind.i64.wrap (a2 - (mDateOf a0.2.1 (lit [100, 97, 116, 101])).1)) then 2147483648 else (IntKind.i64.wrap (a2 - (mDateOf a0.2.1 (lit [100, 97, 116, 101])).1))) < (mSatAdd (mSeconds (mFieldGet a0.2.1 (lit [97, 103, 101])).1).1 0) then (mSatAdd (mSeconds (mFieldGet a0.2.1 (lit [97, 103, 101])).1).1 0) else (if 2147483648 < (IntKind.i64.wrap (a2 - (mDateOf a0.2.1 (lit [100, 97, 116, 101])).1)) then 2147483648 else (IntKind.i64.wrap (a2 - (mDateOf a0.2.1 (lit [100, 97, 116, 101])).1))))))) ∧
    (¬ ((mDateOf a0.2.1 (lit [100, 97, 116, 101])).1 < a2) →
      (a1 < a2 →
        (0 ≤ a1 →
          pSatAdd (mSeconds (mFieldGet a0.2.1 (lit [97, 103, 101])).1).1 (IntKind.i64.wrap (a2 - a1)) ∧
          (Q (if 0 < (mSatAdd (mSeconds (mFieldGet a0.2.1 (lit [97, 103, 101])).1).1 (IntKind.i64.wrap (a2 - a1))) then (mSatAdd (mSeconds (mFieldGet a0.2.1 (lit [97, 103, 101])).1).1 (IntKind.i64.wrap (a2 - a1))) else 0))) ∧
        (¬ (0 ≤ a1) →
          pSatAdd (mSeconds (mFieldGet a0.2.1 (lit [97, 103, 101])).1).1 0 ∧
          (Q (if 0 < (mSatAdd (mSeconds (mFieldGet a0.2.1 (lit [97, 103, 101])).1).1 0) then (mSatAdd (mSeconds (mFieldGet a0.2.1 (lit [97, 103, 101])).1).1 0) else 0)))) ∧
      (¬ (a1 < a2) →
        pSatAdd (mSeconds (mFieldGet a0.2.1 (lit [97, 103, 101])).1).1 0 ∧
        (Q (if 0 < (mSatAdd (mSeconds (mFieldGet a0.2.1 (lit [97, 103, 101])).1).1 0) then (mSatAdd (mSeconds (mFieldGet a0.2.1 (lit [97, 103, 101])).1).1 0) else 0))))) ∧
  (¬ ((mDateOf a0.2.1 (lit [100, 97, 116, 101])).2 = true) →
    (a1 < a2 →
      (0 ≤ a1 →
        pSatAdd (mSeconds (mFieldGet a0.2.1 (lit [97, 103, 101])).1).1 (IntKind.i64.wrap (a2 - a1)) ∧
        (Q (if 0 < (mSatAdd (mSeconds (mFieldGet a0.2.1 (lit [97, 103, 101])).1).1 (IntKind.i64.wrap (a2 - a1))) then (mSatAdd (mSeconds (mFieldGet a0.2.1 (lit [97, 103, 101])).1).1 (IntKind.i64.wrap (a2 - a1))) else 0))) ∧
      (¬ (0 ≤ a1) →
        pSatAdd (mSeconds (mFieldGet a0.2.1 (lit [97, 103, 101])).1).1 0 ∧
        (Q (if 0 < (mSatAdd (mSeconds (mFieldGet a0.2.1 (lit [97, 103, 101])).1).1 0) then (mSatAdd (mSeconds (mFieldGet a0.2.1 (lit [97, 103, 101])).1).1 0) else 0)))) ∧
    (¬ (a1 < a2) →
      pSatAdd (mSeconds (mFieldGet a0.2.1 (lit [97, 103, 101])).1).1 0 ∧
      (Q (if 0 < (mSatAdd (mSeconds (mFieldGet a0.2.1 (lit [97, 103, 101])).1).1 0) then (mSatAdd (mSeconds (mFieldGet a0.2.1 (lit [97, 103, 101])).1).1 0) else 0))))

def s_spec_Lifetime (a0 : Rsp) (Q : (Int → Prop)) : Prop :=
  pCcSeconds a0.2.1 (lit [115, 45, 109, 97, 120, 97, 103, 101]) ∧
  ((mCcSeconds a0.2.1 (lit [115, 45, 109, 97, 120, 97, 103, 101])).2 = true →
    (Q (mCcSeconds a0.2.1 (lit [115, 45, 109, 97, 120, 97, 103, 101])).1)) ∧
  (¬ ((mCcSeconds a0.2.1 (lit [115, 45, 109, 97, 120, 97, 103, 101])).2 = true) →
    pCcSeconds a0.2.1 (lit [109, 97, 120, 45, 97, 103, 101]) ∧
    ((mCcSeconds a0.2.1 (lit [109, 97, 120, 45, 97, 103, 101])).2 = true →
      (Q (mCcSeconds a0.2.1 (lit [109, 97, 120, 45, 97, 103, 101])).1)) ∧
    (¬ ((mCcSeconds a0.2.1 (lit [109, 97, 120, 45, 97, 103, 101])).2 = true) →
      pDateOf a0.2.1 (lit [100, 97, 116, 101]) ∧
      pFieldGet a0.2.1 (lit [101, 120, 112, 105, 114, 101, 115]) ∧
      ((mFieldGet a0.2.1 (lit [101, 120, 112, 105, 114, 101, 115])).2 = true →
        pDateOf a0.2.1 (lit [101, 120, 112, 105, 114, 101, 115]) ∧
        (¬ ((mDateOf a0.2.1 (lit [101, 120, 112, 105, 114, 101, 115])).2 = true) →
          (Q 0)) ∧
        (¬ (¬ ((mDateOf a0.2.1 (lit [101, 120, 112, 105, 114, 101, 115])).2 = true)) →
          (¬ ((mDateOf a0.2.1 (lit [100, 97, 116, 101])).2 = true) →
            (Q 0)) ∧
          (¬ (¬ ((mDateOf a0.2.1 (lit [100, 97, 116, 101])).2 = true)) →
            (Q (if 0 < (IntKind.i64.wrap ((mDateOf a0.2.1 (lit [101, 120, 112, 105, 114, 101, 115])).1 - (mDateOf a0.2.1 (lit [100, 97, 116, 101])).1)) then (IntKind.i64.wrap ((mDateOf a0.2.1 (lit [101, 120, 112, 105, 114, 101, 115])).1 - (mDateOf a0.2.1 (lit [100, 97, 116, 101])).1)) else 0))))) ∧
      (¬ ((mFieldGet a0.2.1 (lit [101, 120, 112, 105, 114, 101, 115])).2 = true) →
        pDateOf a0.2.1 (lit [108, 97, 115, 116, 45, 109, 111, 100, 105, 102, 105, 101, 100]) ∧
        ((mDateOf a0.2.1 (lit [100, 97, 116, 101])).2 = true →
          ((mDateOf a0.2.1 (lit [108, 97, 115, 116, 45, 109, 111, 100, 105, 102, 105, 101, 100])).2 = true →
            (10 : Int) ≠ 0 ∧
            (Q (IntKind.i64.wrap ((if 0 < (IntKind.i64.wrap ((mDateOf a0.2.1 (lit [100, 97, 116, 101])).1 - (mDateOf a0.2.1 (lit [108, 97, 115, 116, 45, 109, 111, 100, 105, 102, 105, 101, 100])).1)) then (IntKind.i64.wrap ((mDateOf a0.2.1 (lit [100, 97, 116, 101])).1 - (mDateOf a0.2.1 (lit [108, 97, 115, 116, 45, 109, 111, 100, 105, 102, 105, 101, 100])).1)) else 0).tdiv 10)))) ∧
          (¬ ((mDateOf a0.2.1 (lit [108, 97, 115, 116, 45, 109, 111, 100, 105, 102, 105, 101, 100])).2 = true) →
            (Q 0))) ∧
        (¬ ((mDateOf a0.2.1 (lit [100, 97, 116, 101])).2 = true) →
          (Q 0)))))

def s_spec_MustCheck (a0 : Req) (a1 : Rsp) (a2 : Int) (a3 : Int) (a4 : Int) (Q : (Bool → Prop)) : Prop :=
  pCcHas a0.2.2.1 (lit [110, 111, 45, 99, 97, 99, 104, 101]) ∧
  ((mCcHas a0.2.2.1 (lit [110, 111, 45, 99, 97, 99, 104, 101])) = true →
    (Q true)) ∧
  (¬ ((mCcHas a0.2.2.1 (lit [110, 111, 45, 99, 97, 99, 104, 101])) = true) →
    pCcHas a1.2.1 (lit [110, 111, 45, 99, 97, 99, 104, 101]) ∧
    ((mCcHas a1.2.1 (lit [110, 111, 45, 99, 97, 99, 104, 101])) = true →
      (Q true)) ∧
    (¬ ((mCcHas a1.2.1 (lit [110, 111, 45, 99, 97, 99, 104, 101])) = true) →
      pAgeAt a1 a2 a3 a4 ∧
      pLifetime a1 ∧
      pCcSeconds a0.2.2.1 (lit [109, 97, 120, 45, 97, 103, 101]) ∧
      ((mCcSeconds a0.2.2.1 (lit [109, 97, 120, 45, 97, 103, 101])).2 = true →
        ((mCcSeconds a0.2.2.1 (lit [109, 97, 120, 45, 97, 103, 101])).1 < (mAgeAt a1 a2 a3 a4) →
          (Q true)) ∧
        (¬ ((mCcSeconds a0.2.2.1 (lit [109, 97, 120, 45, 97, 103, 101])).1 < (mAgeAt a1 a2 a3 a4)) →
          pCcSeconds a0.2.2.1 (lit [109, 105, 110, 45, 102, 114, 101, 115, 104]) ∧
          ((mCcSeconds a0.2.2.1 (lit [109, 105, 110, 45, 102, 114, 101, 115, 104])).2 = true →
            pSatAdd (mAgeAt a1 a2 a3 a4) (mCcSeconds a0.2.2.1 (lit [109, 105, 110, 45, 102, 114, 101, 115, 104])).1 ∧
            ((mLifetime a1) < (mSatAdd (mAgeAt a1 a2 a3 a4) (mCcSeconds a0.2.2.1 (lit [109, 105, 110, 45, 102, 114, 101, 115, 104])).1) →
              (Q true)) ∧
            (¬ ((mLifetime a1) < (mSatAdd (mAgeAt a1 a2 a3 a4) (mCcSeconds a0.2.2.1 (lit [109, 105, 110, 45, 102, 114, 101, 115, 104])).1)) →
              (Q (decide ((mLifetime a1) ≤ (mAgeAt a1 a2 a3 a4)))))) ∧
          (¬ ((mCcSeconds a0.2.2.1 (lit [109, 105, 110, 45, 102, 114, 101, 115, 104])).2 = true) →
            (Q (decide ((mLifetime a1) ≤ (mAgeAt a1 a2 a3 a4))))))) ∧
      (¬ ((mCcSeconds a0.2.2.1 (lit [109, 97, 120, 45, 97, 103, 101])).2 = true) →
        pCcSeconds a0.2.2.1 (lit [109, 105, 110, 45, 102, 114, 101, 115, 104]) ∧
        ((mCcSeconds a0.2.2.1 (lit [109, 105, 110, 45, 102, 114, 101, 115, 104])).2 = true →
          pSatAdd (mAgeAt a1 a2 a3 a4) (mCcSeconds a0.2.2.1 (lit [109, 105, 110, 45, 102, 114, 101, 115, 104])).1 ∧
          ((mLifetime a1) < (mSatAdd (mAgeAt a1 a2 a3 a4) (mCcSeconds a0.2.2.1 (lit [109, 105, 110, 45, 102, 114, 101, 115, 104])).1) →
            (Q true)) ∧
          (¬ ((mLifetime a1) < (mSatAdd (mAgeAt a1 a2 a3 a4) (mCcSeconds a0.2.2.1 (lit [109, 105, 110, 45, 102, 114, 101, 115, 104])).1)) →
            (Q (decide ((mLifetime a1) ≤ (mAgeAt a1 a2 a3 a4)))))) ∧
        (¬ ((mCcSeconds a0.2.2.1 (lit [109, 105, 110, 45, 102, 114, 101, 115, 104])).2 = true) →
          (Q (decide ((mLifetime a1) ≤ (mAgeAt a1 a2 a3 a4))))))))

def s_spec_SatAdd (a0 : Int) (a1 : Int) (Q : (Int → Prop)) : Prop :=
  (Q (if 2147483648 < (IntKind.i64.wrap ((if 0 < (if 2147483648 < a0 then 2147483648 else a0) then (if 2147483648 < a0 then 2147483648 else a0) else 0) + (if 0 < (if 2147483648 < a1 then 2147483648 else a1) then (if 2147483648 < a1 then 2147483648 else a1) else 0))) then 2147483648 else (IntKind.i64.wrap ((if 0 < (if 2147483648 < a0 then 2147483648 else a0) then (if 2147483648 < a0 then 2147483648 else a0) else 0) + (if 0 < (if 2147483648 < a1 then 2147483648 else a1) then (if 2147483648 < a1 then 2147483648 else a1) else 0)))))

end Go.Ev
end

section
/- What the functions that read dates come to: printed by a program of this session's own (EwShow) out of the small machine. -/
set_option linter.unusedVariables false
namespace Go.Ev

def s_impl_DateOf (a0 : (List Fld)) (a1 : S) (Q : ((Int × Bool) → Prop)) : Prop :=
  pFieldGet a0 a1 ∧
  (¬ ((mFieldGet a0 a1).2 = true) →
    (Q (0, false))) ∧
  (¬ (¬ ((mFieldGet a0 a1).2 = true)) →
    pReadDate (mFieldGet a0 a1).1 ∧
    (Q (mReadDate (mFieldGet a0 a1).1)))

def s_impl_ReadDate (a0 : S) (Q : ((Int × Bool) → Prop)) : Prop :=
  pSplit a0 (lit [32]) ∧
  (((mSplit a0 (lit [32])).length : Int) ≠ 6 →
    (Q (0, false))) ∧
  (¬ (((mSplit a0 (lit [32])).length : Int) ≠ 6) →
    ((a0.size : Int) ≠ 29 →
      (Q (0, false))) ∧
    (¬ ((a0.size : Int) ≠ 29) →
      (0 : Int) ≤ 4 ∧
      4 < ((mSplit a0 (lit [32])).length : Int) ∧
      (((rx (mSplit a0 (lit [32])) 4).size : Int) ≠ 8 →
        (Q (0, false))) ∧
      (¬ (((rx (mSplit a0 (lit [32])) 4).size : Int) ≠ 8) →
        (0 : Int) ≤ 3 ∧
        3 < ((mSplit a0 (lit [32])).length : Int) ∧
        (((rx (mSplit a0 (lit [32])) 3).size : Int) ≠ 4 →
          (Q (0, false))) ∧
        (¬ (((rx (mSplit a0 (lit [32])) 3).size : Int) ≠ 4) →
          (0 : Int) ≤ 4 ∧
          4 < ((mSplit a0 (lit [32])).length : Int) ∧
          (0 : Int) ≤ 3 ∧
          3 < ((mSplit a0 (lit [32])).length : Int) ∧
          pNumber (rx (mSplit a0 (lit [32])) 3) ∧
          pMonths () ∧
          (0 : Int) ≤ 2 ∧
          2 < ((mSplit a0 (lit [32])).length : Int) ∧
          pIndex_string monthL (rx (mSplit a0 (lit [32])) 2) ∧
          (0 : Int) ≤ 1 ∧
          1 < ((mSplit a0 (lit [32])).length : Int) ∧
          pNumber (rx (mSplit a0 (lit [32])) 1) ∧
          pDaysOf (mNumber (rx (mSplit a0 (lit [32])) 3)) (IntKind.i64.wrap ((mIndex_string monthL (rx (mSplit a0 (lit [32])) 2)) + 1)) (mNumber (rx (mSplit a0 (lit [32])) 1)) ∧
          ((mDaysOf (mNumber (rx (mSplit a0 (lit [32])) 3)) (IntKind.i64.wrap ((mIndex_string monthL (rx (mSplit a0 (lit [32])) 2)) + 1)) (mNumber (rx (mSplit a0 (lit [32])) 1))) < 0 →
            (Q (0, false))) ∧
          (¬ ((mDaysOf (mNumber (rx (mSplit a0 (lit [32])) 3)) (IntKind.i64.wrap ((mIndex_string monthL (rx (mSplit a0 (lit [32])) 2)) + 1)) (mNumber (rx (mSplit a0 (lit [32])) 1))) < 0) →
            (0 : Int) ≤ 2 ∧
            2 ≤ ((rx (mSplit a0 (lit [32])) 4).size : Int) ∧
            pNumber ((rx (mSplit a0 (lit [32])) 4).extract 0 ((2 : Int).toNat)) ∧
            (0 : Int) ≤ 3 ∧
            (3 : Int) ≤ 5 ∧
            5 ≤ ((rx (mSplit a0 (lit [32])) 4).size : Int) ∧
            pNumber ((rx (mSplit a0 (lit [32])) 4).extract ((3 : Int).toNat) ((5 : Int).toNat)) ∧
            (0 : Int) ≤ 6 ∧
            6 ≤ ((rx (mSplit a0 (lit [32])) 4).size : Int) ∧
            pNumber ((rx (mSplit a0 (lit [32])) 4).extract ((6 : Int).toNat) (rx (mSplit a0 (lit [32])) 4).size) ∧
            pShowDate (IntKind.i64.wrap ((IntKind.i64.wrap ((IntKind.i64.wrap ((IntKind.i64.wrap ((mDaysOf (mNumber (rx (mSplit a0 (lit [32])) 3)) (IntKind.i64.wrap ((mIndex_string monthL (rx (mSplit a0 (lit [32])) 2)) + 1)) (mNumber (rx (mSplit a0 (lit [32])) 1))) * 86400)) + (IntKind.i64.wrap (3600 * (mNumber ((rx (mSplit a0 (lit [32])) 4).extract 0 ((2 : Int).toNat))))))) + (IntKind.i64.wrap (60 * (mNumber ((rx (mSplit a0 (lit [32])) 4).extract ((3 : Int).toNat) ((5 : Int).toNat))))))) + (mNumber ((rx (mSplit a0 (lit [32])) 4).extract ((6 : Int).toNat) (rx (mSplit a0 (lit [32])) 4).size)))) ∧
            ((mShowDate (IntKind.i64.wrap ((IntKind.i64.wrap ((IntKind.i64.wrap ((IntKind.i64.wrap ((mDaysOf (mNumber (rx (mSplit a0 (lit [32])) 3)) (IntKind.i64.wrap ((mIndex_string monthL (rx (mSplit a0 (lit [32])) 2)) + 1)) (mNumber (rx (mSplit a0 (lit [32])) 1))) * 86400)) + (IntKind.i64.wrap (3600 * (mNumber ((rx (mSplit a0 (lit [32])) 4).extract 0 ((2 : Int).toNat))))))) + (IntKind.i64.wrap (60 * (mNumber ((rx (mSplit a0 (lit [32])) 4).extract ((3 : Int).toNat) ((5 : Int).toNat))))))) + (mNumber ((rx (mSplit a0 (lit [32])) 4).extract ((6 : Int).toNat) (rx (mSplit a0 (lit [32])) 4).size))))) ≠ a0 →
              (Q (0, false))) ∧
            (¬ ((mShowDate (IntKind.i64.wrap ((IntKind.i64.wrap ((IntKind.i64.wrap ((IntKind.i64.wrap ((mDaysOf (mNumber (rx (mSplit a0 (lit [32])) 3)) (IntKind.i64.wrap ((mIndex_string monthL (rx (mSplit a0 (lit [32])) 2)) + 1)) (mNumber (rx (mSplit a0 (lit [32])) 1))) * 86400)) + (IntKind.i64.wrap (3600 * (mNumber ((rx (mSplit a0 (lit [32])) 4).extract 0 ((2 : Int).toNat))))))) + (IntKind.i64.wrap (60 * (mNumber ((rx (mSplit a0 (lit [32])) 4).extract ((3 : Int).toNat) ((5 : Int).toNat))))))) + (mNumber ((rx (mSplit a0 (lit [32])) 4).extract ((6 : Int).toNat) (rx (mSplit a0 (lit [32])) 4).size))))) ≠ a0) →
              (Q ((IntKind.i64.wrap ((IntKind.i64.wrap ((IntKind.i64.wrap ((IntKind.i64.wrap ((mDaysOf (mNumber (rx (mSplit a0 (lit [32])) 3)) (IntKind.i64.wrap ((mIndex_string monthL (rx (mSplit a0 (lit [32])) 2)) + 1)) (mNumber (rx (mSplit a0 (lit [32])) 1))) * 86400)) + (IntKind.i64.wrap (3600 * (mNumber ((rx (mSplit a0 (lit [32])) 4).extract 0 ((2 : Int).toNat))))))) + (IntKind.i64.wrap (60 * (mNumber ((rx (mSplit a0 (lit [32])) 4).extract ((3 : Int).toNat) ((5 : Int).toNat))))))) + (mNumber ((rx (mSplit a0 (lit [32])) 4).extract ((6 : Int).toNat) (rx (mSplit a0 (lit [32])) 4).size)))), true))))))))

def s_impl_Seconds (a0 : S) (Q : ((Int × Bool) → Prop)) : Prop :=
  (∀ L0 : (Int → Prop),
    ((
        (∀ y1 : Int,
          ((
              (y1 < (a0.size : Int) →
                0 ≤ y1 ∧
                y1 < (a0.size : Int) ∧
                ((bt a0 y1) < 48 →
                  (Q (0, false))) ∧
                (¬ ((bt a0 y1) < 48) →
                  0 ≤ y1 ∧
                  y1 < (a0.size : Int) ∧
                  (57 < (bt a0 y1) →
                    (Q (0, false))) ∧
                  (¬ (57 < (bt a0 y1)) →
                    (L0 (IntKind.i64.wrap (y1 + 1)))))) ∧
              (¬ (y1 < (a0.size : Int)) →
                (a0 = (lit []) →
                  (Q (0, false))) ∧
                (¬ (a0 = (lit [])) →
                  pTrimLeft a0 (lit [48]) ∧
                  (10 < ((mTrimLeft a0 (lit [48])).size : Int) →
                    (Q (2147483648, true))) ∧
                  (¬ (10 < ((mTrimLeft a0 (lit [48])).size : Int)) →
                    (lit [48]).size + (mTrimLeft a0 (lit [48])).size ≤ 9223372036854775807 ∧
                    pAtoi ((lit [48]) ++ (mTrimLeft a0 (lit [48]))) ∧
                    (Q ((if 2147483648 < (mAtoi ((lit [48]) ++ (mTrimLeft a0 (lit [48])))).1 then 2147483648 else (mAtoi ((lit [48]) ++ (mTrimLeft a0 (lit [48])))).1), true)))))
            ) →
            (L0 y1)))
      ) →
      (L0 0)))

def s_impl_number (a0 : S) (Q : (Int → Prop)) : Prop :=
  (∀ L0 : (Int → Prop),
    ((
        (∀ y1 : Int,
          ((
              (y1 < (a0.size : Int) →
                0 ≤ y1 ∧
                y1 < (a0.size : Int) ∧
                ((bt a0 y1) < 48 →
                  (Q (-1))) ∧
                (¬ ((bt a0 y1) < 48) →
                  0 ≤ y1 ∧
                  y1 < (a0.size : Int) ∧
                  (57 < (bt a0 y1) →
                    (Q (-1))) ∧
                  (¬ (57 < (bt a0 y1)) →
                    (L0 (IntKind.i64.wrap (y1 + 1)))))) ∧
              (¬ (y1 < (a0.size : Int)) →
                pAtoi a0 ∧
                (Q (mAtoi a0).1))
            ) →
            (L0 y1)))
      ) →
      (L0 0)))

def s_spec_DateOf (a0 : (List Fld)) (a1 : S) (Q : ((Int × Bool) → Prop)) : Prop :=
  pFieldGet a0 a1 ∧
  (¬ ((mFieldGet a0 a1).2 = true) →
    (Q (0, false))) ∧
  (¬ (¬ ((mFieldGet a0 a1).2 = true)) →
    pReadDate (mFieldGet a0 a1).1 ∧
    (Q (mReadDate (mFieldGet a0 a1).1)))

def s_spec_ReadDate (a0 : S) (Q : ((Int × Bool) → Prop)) : Prop :=
  ((a0.size : Int) ≠ 29 →
    (Q (0, false))) ∧
  (¬ ((a0.size : Int) ≠ 29) →
    (∀ L0 : ((Int × Int) → Prop),
      ((
          (∀ y1 : (Int × Int),
            ((
                (y1.2 ≤ 12 →
                  (0 : Int) ≤ 8 ∧
                  (8 : Int) ≤ 11 ∧
                  11 ≤ (a0.size : Int) ∧
                  0 ≤ (IntKind.i64.wrap (y1.2 - 1)) ∧
                  (IntKind.i64.wrap (y1.2 - 1)) < (monthL.length : Int) ∧
                  ((a0.extract ((8 : Int).toNat) ((11 : Int).toNat)) = (rx monthL (IntKind.i64.wrap (y1.2 - 1))) →
                    (L0 (y1.2, (IntKind.i64.wrap (y1.2 + 1))))) ∧
                  (¬ ((a0.extract ((8 : Int).toNat) ((11 : Int).toNat)) = (rx monthL (IntKind.i64.wrap (y1.2 - 1)))) →
                    (L0 (y1.1, (IntKind.i64.wrap (y1.2 + 1)))))) ∧
                (¬ (y1.2 ≤ 12) →
                  pL4Num a0 12 4 ∧
                  pL4Num a0 5 2 ∧
                  pDaysOf (mL4Num a0 12 4) y1.1 (mL4Num a0 5 2) ∧
                  pL4Num a0 17 2 ∧
                  pL4Num a0 20 2 ∧
                  pL4Num a0 23 2 ∧
                  ((mDaysOf (mL4Num a0 12 4) y1.1 (mL4Num a0 5 2)) < 0 →
                    (Q (0, false))) ∧
                  (¬ ((mDaysOf (mL4Num a0 12 4) y1.1 (mL4Num a0 5 2)) < 0) →
                    ((mL4Num a0 17 2) < 0 →
                      (Q (0, false))) ∧
                    (¬ ((mL4Num a0 17 2) < 0) →
                      ((mL4Num a0 20 2) < 0 →
                        (Q (0, false))) ∧
                      (¬ ((mL4Num a0 20 2) < 0) →
                        ((mL4Num a0 23 2) < 0 →
                          (Q (0, false))) ∧
                        (¬ ((mL4Num a0 23 2) < 0) →
                          pShowDate (IntKind.i64.wrap ((IntKind.i64.wrap ((IntKind.i64.wrap ((IntKind.i64.wrap ((mDaysOf (mL4Num a0 12 4) y1.1 (mL4Num a0 5 2)) * 86400)) + (IntKind.i64.wrap ((mL4Num a0 17 2) * 3600)))) + (IntKind.i64.wrap ((mL4Num a0 20 2) * 60)))) + (mL4Num a0 23 2))) ∧
                          ((mShowDate (IntKind.i64.wrap ((IntKind.i64.wrap ((IntKind.i64.wrap ((IntKind.i64.wrap ((mDaysOf (mL4Num a0 12 4) y1.1 (mL4Num a0 5 2)) * 86400)) + (IntKind.i64.wrap ((mL4Num a0 17 2) * 3600)))) + (IntKind.i64.wrap ((mL4Num a0 20 2) * 60)))) + (mL4Num a0 23 2)))) ≠ a0 →
                            (Q (0, false))) ∧
                          (¬ ((mShowDate (IntKind.i64.wrap ((IntKind.i64.wrap ((IntKind.i64.wrap ((IntKind.i64.wrap ((mDaysOf (mL4Num a0 12 4) y1.1 (mL4Num a0 5 2)) * 86400)) + (IntKind.i64.wrap ((mL4Num a0 17 2) * 3600)))) + (IntKind.i64.wrap ((mL4Num a0 20 2) * 60)))) + (mL4Num a0 23 2)))) ≠ a0) →
                            (Q ((IntKind.i64.wrap ((IntKind.i64.wrap ((IntKind.i64.wrap ((IntKind.i64.wrap ((mDaysOf (mL4Num a0 12 4) y1.1 (mL4Num a0 5 2)) * 86400)) + (IntKind.i64.wrap ((mL4Num a0 17 2) * 3600)))) + (IntKind.i64.wrap ((mL4Num a0 20 2) * 60)))) + (mL4Num a0 23 2))), true))))))))
              ) →
              (L0 y1)))
        ) →
        (L0 (0, 1)))))

def s_spec_Seconds (a0 : S) (Q : ((Int × Bool) → Prop)) : Prop :=
  (∀ L0 : ((Int × Int) → Prop),
    ((
        (∀ y1 : (Int × Int),
          ((
              (y1.2 < (a0.size : Int) →
                0 ≤ y1.2 ∧
                y1.2 < (a0.size : Int) ∧
                ((bt a0 y1.2) < 48 →
                  (Q (0, false))) ∧
                (¬ ((bt a0 y1.2) < 48) →
                  0 ≤ y1.2 ∧
                  y1.2 < (a0.size : Int) ∧
                  (57 < (bt a0 y1.2) →
                    (Q (0, false))) ∧
                  (¬ (57 < (bt a0 y1.2)) →
                    0 ≤ y1.2 ∧
                    y1.2 < (a0.size : Int) ∧
                    (L0 ((if 2147483648 < (IntKind.i64.wrap ((IntKind.i64.wrap (y1.1 * 10)) + (IntKind.i64.wrap (IntKind.u8.wrap ((bt a0 y1.2) - 48))))) then 2147483648 else (IntKind.i64.wrap ((IntKind.i64.wrap (y1.1 * 10)) + (IntKind.i64.wrap (IntKind.u8.wrap ((bt a0 y1.2) - 48)))))), (IntKind.i64.wrap (y1.2 + 1))))))) ∧
              (¬ (y1.2 < (a0.size : Int)) →
                (Q (y1.1, (decide (0 < (a0.size : Int))))))
            ) →
            (L0 y1)))
      ) →
      (L0 (0, 0))))

def s_spec_l4Num (a0 : S) (a1 : Int) (a2 : Int) (Q : (Int → Prop)) : Prop :=
  (∀ L0 : ((Int × Int) → Prop),
    ((
        (∀ y1 : (Int × Int),
          ((
              (y1.2 < (IntKind.i64.wrap (a1 + a2)) →
                0 ≤ y1.2 ∧
                y1.2 < (a0.size : Int) ∧
                ((bt a0 y1.2) < 48 →
                  (Q (-1))) ∧
                (¬ ((bt a0 y1.2) < 48) →
                  0 ≤ y1.2 ∧
                  y1.2 < (a0.size : Int) ∧
                  (57 < (bt a0 y1.2) →
                    (Q (-1))) ∧
                  (¬ (57 < (bt a0 y1.2)) →
                    0 ≤ y1.2 ∧
                    y1.2 < (a0.size : Int) ∧
                    (L0 ((IntKind.i64.wrap ((IntKind.i64.wrap (y1.1 * 10)) + (IntKind.i64.wrap (IntKind.u8.wrap ((bt a0 y1.2) - 48))))), (IntKind.i64.wrap (y1.2 + 1))))))) ∧
              (¬ (y1.2 < (IntKind.i64.wrap (a1 + a2))) →
                (Q y1.1))
            ) →
            (L0 y1)))
      ) →
      (L0 (0, a1))))

end Go.Ev
end

section
/- What the functions of dates come to: printed by a program of this session's own (EwShow) out of the small machine. -/
set_option linter.unusedVariables false
namespace Go.Ev

def s_impl_DaysOf (a0 : Int) (a1 : Int) (a2 : Int) (Q : (Int → Prop)) : Prop :=
  pIn a0 1970 2037 ∧
  (¬ ((mIn a0 1970 2037) = true) →
    (Q (-1))) ∧
  (¬ (¬ ((mIn a0 1970 2037) = true)) →
    pIn a1 1 12 ∧
    (¬ ((mIn a1 1 12) = true) →
      (Q (-1))) ∧
    (¬ (¬ ((mIn a1 1 12) = true)) →
      pMonthDays a0 a1 ∧
      pIn a2 1 (mMonthDays a0 a1) ∧
      (¬ ((mIn a2 1 (mMonthDays a0 a1)) = true) →
        (Q (-1))) ∧
      (¬ (¬ ((mIn a2 1 (mMonthDays a0 a1)) = true)) →
        (∀ L0 : ((Int × Int) → Prop),
          ((
              (∀ y1 : (Int × Int),
                ((
                    (y1.2 < a0 →
                      pYearDays y1.2 ∧
                      (L0 ((IntKind.i64.wrap (y1.1 + (mYearDays y1.2))), (IntKind.i64.wrap (y1.2 + 1))))) ∧
                    (¬ (y1.2 < a0) →
                      (∀ L2 : ((Int × Int) → Prop),
                        ((
                            (∀ y3 : (Int × Int),
                              ((
                                  (y3.2 < a1 →
                                    pMonthDays a0 y3.2 ∧
                                    (L2 ((IntKind.i64.wrap (y3.1 + (mMonthDays a0 y3.2))), (IntKind.i64.wrap (y3.2 + 1))))) ∧
                                  (¬ (y3.2 < a1) →
                                    (Q y3.1))
                                ) →
                                (L2 y3)))
                          ) →
                          (L2 (y1.1, 1)))))
                  ) →
                  (L0 y1)))
            ) →
            (L0 ((IntKind.i64.wrap (a2 - 1)), 1970)))))))

def s_impl_IsLeap (a0 : Int) (Q : (Bool → Prop)) : Prop :=
  (4 : Int) ≠ 0 ∧
  ((a0.tmod 4) = 0 →
    (100 : Int) ≠ 0 ∧
    ((a0.tmod 100) ≠ 0 →
      (Q true)) ∧
    (¬ ((a0.tmod 100) ≠ 0) →
      (400 : Int) ≠ 0 ∧
      (Q (decide ((a0.tmod 400) = 0))))) ∧
  (¬ ((a0.tmod 4) = 0) →
    (400 : Int) ≠ 0 ∧
    (Q (decide ((a0.tmod 400) = 0))))

def s_impl_ShowDate (a0 : Int) (Q : (S → Prop)) : Prop :=
  pIn a0 0 2000000000 ∧
  (¬ ((mIn a0 0 2000000000) = true) →
    (Q (lit []))) ∧
  (¬ (¬ ((mIn a0 0 2000000000) = true)) →
    (86400 : Int) ≠ 0 ∧
    (86400 : Int) ≠ 0 ∧
    (7 : Int) ≠ 0 ∧
    0 ≤ ((IntKind.i64.wrap (a0.tdiv 86400)).tmod 7) ∧
    ((IntKind.i64.wrap (a0.tdiv 86400)).tmod 7) < (weekL.length : Int) ∧
    (∀ L0 : ((Int × Int) → Prop),
      ((
          (∀ y1 : (Int × Int),
            ((
                pYearDays y1.2 ∧
                ((mYearDays y1.2) ≤ y1.1 →
                  pYearDays y1.2 ∧
                  (L0 ((IntKind.i64.wrap (y1.1 - (mYearDays y1.2))), (IntKind.i64.wrap (y1.2 + 1))))) ∧
                (¬ ((mYearDays y1.2) ≤ y1.1) →
                  (∀ L2 : ((Int × Int) → Prop),
                    ((
                        (∀ y3 : (Int × Int),
                          ((
                              pMonthDays y1.2 y3.2 ∧
                              ((mMonthDays y1.2 y3.2) ≤ y3.1 →
                                pMonthDays y1.2 y3.2 ∧
                                (L2 ((IntKind.i64.wrap (y3.1 - (mMonthDays y1.2 y3.2))), (IntKind.i64.wrap (y3.2 + 1))))) ∧
                              (¬ ((mMonthDays y1.2 y3.2) ≤ y3.1) →
                                (rx weekL ((IntKind.i64.wrap (a0.tdiv 86400)).tmod 7)).size + (lit [44, 32]).size ≤ 9223372036854775807 ∧
                                pTwo (IntKind.i64.wrap (y3.1 + 1)) ∧
                                ((rx weekL ((IntKind.i64.wrap (a0.tdiv 86400)).tmod 7)) ++ (lit [44, 32])).size + (mTwo (IntKind.i64.wrap (y3.1 + 1))).size ≤ 9223372036854775807 ∧
                                (((rx weekL ((IntKind.i64.wrap (a0.tdiv 86400)).tmod 7)) ++ (lit [44, 32])) ++ (mTwo (IntKind.i64.wrap (y3.1 + 1)))).size + (lit [32]).size ≤ 9223372036854775807 ∧
                                pMonths () ∧
                                0 ≤ (IntKind.i64.wrap (y3.2 - 1)) ∧
                                (IntKind.i64.wrap (y3.2 - 1)) < (monthL.length : Int) ∧
                                ((((rx weekL ((IntKind.i64.wrap (a0.tdiv 86400)).tmod 7)) ++ (lit [44, 32])) ++ (mTwo (IntKind.i64.wrap (y3.1 + 1)))) ++ (lit [32])).size + (rx monthL (IntKind.i64.wrap (y3.2 - 1))).size ≤ 9223372036854775807 ∧
                                (((((rx weekL ((IntKind.i64.wrap (a0.tdiv 86400)).tmod 7)) ++ (lit [44, 32])) ++ (mTwo (IntKind.i64.wrap (y3.1 + 1)))) ++ (lit [32])) ++ (rx monthL (IntKind.i64.wrap (y3.2 - 1)))).size + (lit [32]).size ≤ 9223372036854775807 ∧
                                pItoa y1.2 ∧
                                ((((((rx weekL ((IntKind.i64.wrap (a0.tdiv 86400)).tmod 7)) ++ (lit [44, 32])) ++ (mTwo (IntKind.i64.wrap (y3.1 + 1)))) ++ (lit [32])) ++ (rx monthL (IntKind.i64.wrap (y3.2 - 1)))) ++ (lit [32])).size + (mItoa y1.2).size ≤ 9223372036854775807 ∧
                                (((((((rx weekL ((IntKind.i64.wrap (a0.tdiv 86400)).tmod 7)) ++ (lit [44, 32])) ++ (mTwo (IntKind.i64.wrap (y3.1 + 1)))) ++ (lit [32])) ++ (rx monthL (IntKind.i64.wrap (y3.2 - 1)))) ++ (lit [32])) ++ (mItoa y1.2)).size + (lit [32]).size ≤ 9223372036854775807 ∧
                                (3600 : Int) ≠ 0 ∧
                                pTwo (IntKind.i64.wrap ((a0.tmod 86400).tdiv 3600)) ∧
                                ((((((((rx weekL ((IntKind.i64.wrap (a0.tdiv 86400)).tmod 7)) ++ (lit [44, 32])) ++ (mTwo (IntKind.i64.wrap (y3.1 + 1)))) ++ (lit [32])) ++ (rx monthL (IntKind.i64.wrap (y3.2 - 1)))) ++ (lit [32])) ++ (mItoa y1.2)) ++ (lit [32])).size + (mTwo (IntKind.i64.wrap ((a0.tmod 86400).tdiv 3600))).size ≤ 9223372036854775807 ∧
                                (((((((((rx weekL ((IntKind.i64.wrap (a0.tdiv 86400)).tmod 7)) ++ (lit [44, 32])) ++ (mTwo (IntKind.i64.wrap (y3.1 + 1)))) ++ (lit [32])) ++ (rx monthL (IntKind.i64.wrap (y3.2 - 1)))) ++ (lit [32])) ++ (mItoa y1.2)) ++ (lit [32])) ++ (mTwo (IntKind.i64.wrap ((a0.tmod 86400).tdiv 3600)))).size + (lit [58]).size ≤ 9223372036854775807 ∧
                                (60 : Int) ≠ 0 ∧
                                (60 : Int) ≠ 0 ∧
                                pTwo ((IntKind.i64.wrap ((a0.tmod 86400).tdiv 60)).tmod 60) ∧
                                ((((((((((rx weekL ((IntKind.i64.wrap (a0.tdiv 86400)).tmod 7)) ++ (lit [44, 32])) ++ (mTwo (IntKind.i64.wrap (y3.1 + 1)))) ++ (lit [32])) ++ (rx monthL (IntKind.i64.wrap (y3.2 - 1)))) ++ (lit [32])) ++ (mItoa y1.2)) ++ (lit [32])) ++ (mTwo (IntKind.i64.wrap ((a0.tmod 86400).tdiv 3600)))) ++ (lit [58])).size + (mTwo ((IntKind.i64.wrap ((a0.tmod 86400).tdiv 60)).tmod 60)).size ≤ 9223372036854775807 ∧
                                (((((((((((rx weekL ((IntKind.i64.wrap (a0.tdiv 86400)).tmod 7)) ++ (lit [44, 32])) ++ (mTwo (IntKind.i64.wrap (y3.1 + 1)))) ++ (lit [32])) ++ (rx monthL (IntKind.i64.wrap (y3.2 - 1)))) ++ (lit [32])) ++ (mItoa y1.2)) ++ (lit [32])) ++ (mTwo (IntKind.i64.wrap ((a0.tmod 86400).tdiv 3600)))) ++ (lit [58])) ++ (mTwo ((IntKind.i64.wrap ((a0.tmod 86400).tdiv 60)).tmod 60))).size + (lit [58]).size ≤ 9223372036854775807 ∧
                                (60 : Int) ≠ 0 ∧
                                pTwo ((a0.tmod 86400).tmod 60) ∧
                                ((((((((((((rx weekL ((IntKind.i64.wrap (a0.tdiv 86400)).tmod 7)) ++ (lit [44, 32])) ++ (mTwo (IntKind.i64.wrap (y3.1 + 1)))) ++ (lit [32])) ++ (rx monthL (IntKind.i64.wrap (y3.2 - 1)))) ++ (lit [32])) ++ (mItoa y1.2)) ++ (lit [32])) ++ (mTwo (IntKind.i64.wrap ((a0.tmod 86400).tdiv 3600)))) ++ (lit [58])) ++ (mTwo ((IntKind.i64.wrap ((a0.tmod 86400).tdiv 60)).tmod 60))) ++ (lit [58])).size + (mTwo ((a0.tmod 86400).tmod 60)).size ≤ 9223372036854775807 ∧
                                (((((((((((((rx weekL ((IntKind.i64.wrap (a0.tdiv 86400)).tmod 7)) ++ (lit [44, 32])) ++ (mTwo (IntKind.i64.wrap (y3.1 + 1)))) ++ (lit [32])) ++ (rx monthL (IntKind.i64.wrap (y3.2 - 1)))) ++ (lit [32])) ++ (mItoa y1.2)) ++ (lit [32])) ++ (mTwo (IntKind.i64.wrap ((a0.tmod 86400).tdiv 3600)))) ++ (lit [58])) ++ (mTwo ((IntKind.i64.wrap ((a0.tmod 86400).tdiv 60)).tmod 60))) ++ (lit [58])) ++ (mTwo ((a0.tmod 86400).tmod 60))).size + (lit [32, 71, 77, 84]).size ≤ 9223372036854775807 ∧
                                (Q ((((((((((((((rx weekL ((IntKind.i64.wrap (a0.tdiv 86400)).tmod 7)) ++ (lit [44, 32])) ++ (mTwo (IntKind.i64.wrap (y3.1 + 1)))) ++ (lit [32])) ++ (rx monthL (IntKind.i64.wrap (y3.2 - 1)))) ++ (lit [32])) ++ (mItoa y1.2)) ++ (lit [32])) ++ (mTwo (IntKind.i64.wrap ((a0.tmod 86400).tdiv 3600)))) ++ (lit [58])) ++ (mTwo ((IntKind.i64.wrap ((a0.tmod 86400).tdiv 60)).tmod 60))) ++ (lit [58])) ++ (mTwo ((a0.tmod 86400).tmod 60))) ++ (lit [32, 71, 77, 84]))))
                            ) →
                            (L2 y3)))
                      ) →
                      (L2 (y1.1, 1)))))
              ) →
              (L0 y1)))
        ) →
        (L0 ((IntKind.i64.wrap (a0.tdiv 86400)), 1970)))))

def s_impl_monthDays (a0 : Int) (a1 : Int) (Q : (Int → Prop)) : Prop :=
  (a1 = 2 →
    pIsLeap a0 ∧
    ((mIsLeap a0) = true →
      (Q 29)) ∧
    (¬ ((mIsLeap a0) = true) →
      0 ≤ (IntKind.i64.wrap (a1 - 1)) ∧
      (IntKind.i64.wrap (a1 - 1)) < ([31, 28, 31, 30, 31, 30, 31, 31, 30, 31, 30, 31].length : Int) ∧
      (Q (rx [31, 28, 31, 30, 31, 30, 31, 31, 30, 31, 30, 31] (IntKind.i64.wrap (a1 - 1)))))) ∧
  (¬ (a1 = 2) →
    0 ≤ (IntKind.i64.wrap (a1 - 1)) ∧
    (IntKind.i64.wrap (a1 - 1)) < ([31, 28, 31, 30, 31, 30, 31, 31, 30, 31, 30, 31].length : Int) ∧
    (Q (rx [31, 28, 31, 30, 31, 30, 31, 31, 30, 31, 30, 31] (IntKind.i64.wrap (a1 - 1)))))

def s_impl_months (Q : ((List S) → Prop)) : Prop :=
  (Q monthL)

def s_impl_two (a0 : Int) (Q : (S → Prop)) : Prop :=
  pItoa (IntKind.i64.wrap (100 + a0)) ∧
  (0 : Int) ≤ 1 ∧
  1 ≤ ((mItoa (IntKind.i64.wrap (100 + a0))).size : Int) ∧
  (Q ((mItoa (IntKind.i64.wrap (100 + a0))).extract ((1 : Int).toNat) (mItoa (IntKind.i64.wrap (100 + a0))).size))

def s_impl_yearDays (a0 : Int) (Q : (Int → Prop)) : Prop :=
  pIsLeap a0 ∧
  ((mIsLeap a0) = true →
    (Q 366)) ∧
  (¬ ((mIsLeap a0) = true) →
    (Q 365))

def s_spec_DaysOf (a0 : Int) (a1 : Int) (a2 : Int) (Q : (Int → Prop)) : Prop :=
  pIn a0 1970 2037 ∧
  (¬ ((mIn a0 1970 2037) = true) →
    (Q (-1))) ∧
  (¬ (¬ ((mIn a0 1970 2037) = true)) →
    pIn a1 1 12 ∧
    (¬ ((mIn a1 1 12) = true) →
      (Q (-1))) ∧
    (¬ (¬ ((mIn a1 1 12) = true)) →
      pL4Months a0 ∧
      0 ≤ (IntKind.i64.wrap (a1 - 1)) ∧
      (IntKind.i64.wrap (a1 - 1)) < ((mL4Months a0).length : Int) ∧
      pIn a2 1 (rx (mL4Months a0) (IntKind.i64.wrap (a1 - 1))) ∧
      (¬ ((mIn a2 1 (rx (mL4Months a0) (IntKind.i64.wrap (a1 - 1)))) = true) →
        (Q (-1))) ∧
      (¬ (¬ ((mIn a2 1 (rx (mL4Months a0) (IntKind.i64.wrap (a1 - 1)))) = true)) →
        (∀ L0 : ((Int × Int) → Prop),
          ((
              (∀ y1 : (Int × Int),
                ((
                    (y1.2 < a0 →
                      pIsLeap y1.2 ∧
                      ((mIsLeap y1.2) = true →
                        (L0 ((IntKind.i64.wrap ((IntKind.i64.wrap (y1.1 + 365)) + 1)), (IntKind.i64.wrap (y1.2 + 1))))) ∧
                      (¬ ((mIsLeap y1.2) = true) →
                        (L0 ((IntKind.i64.wrap (y1.1 + 365)), (IntKind.i64.wrap (y1.2 + 1)))))) ∧
                    (¬ (y1.2 < a0) →
                      (∀ L2 : ((Int × Int) → Prop),
                        ((
                            (∀ y3 : (Int × Int),
                              ((
                                  (y3.2 < a1 →
                                    pL4Months a0 ∧
                                    0 ≤ (IntKind.i64.wrap (y3.2 - 1)) ∧
                                    (IntKind.i64.wrap (y3.2 - 1)) < ((mL4Months a0).length : Int) ∧
                                    (L2 ((IntKind.i64.wrap (y3.1 + (rx (mL4Months a0) (IntKind.i64.wrap (y3.2 - 1))))), (IntKind.i64.wrap (y3.2 + 1))))) ∧
                                  (¬ (y3.2 < a1) →
                                    (Q y3.1))
                                ) →
                                (L2 y3)))
                          ) →
                          (L2 (y1.1, 1)))))
                  ) →
                  (L0 y1)))
            ) →
            (L0 ((IntKind.i64.wrap (a2 - 1)), 1970)))))))

def s_spec_IsLeap (a0 : Int) (Q : (Bool → Prop)) : Prop :=
  (4 : Int) ≠ 0 ∧
  ((a0.tmod 4) = 0 →
    (100 : Int) ≠ 0 ∧
    ((a0.tmod 100) ≠ 0 →
      (Q true)) ∧
    (¬ ((a0.tmod 100) ≠ 0) →
      (400 : Int) ≠ 0 ∧
      (Q (decide ((a0.tmod 400) = 0))))) ∧
  (¬ ((a0.tmod 4) = 0) →
    (Q false))

def s_spec_ShowDate (a0 : Int) (Q : (S → Prop)) : Prop :=
  pIn a0 0 2000000000 ∧
  (¬ ((mIn a0 0 2000000000) = true) →
    (Q (lit []))) ∧
  (¬ (¬ ((mIn a0 0 2000000000) = true)) →
    (86400 : Int) ≠ 0 ∧
    (∀ L0 : (Int → Prop),
      ((
          (∀ y1 : Int,
            ((
                (y1 < 2037 →
                  pDaysOf (IntKind.i64.wrap (y1 + 1)) 1 1 ∧
                  ((mDaysOf (IntKind.i64.wrap (y1 + 1)) 1 1) ≤ (IntKind.i64.wrap (a0.tdiv 86400)) →
                    (L0 (IntKind.i64.wrap (y1 + 1)))) ∧
                  (¬ ((mDaysOf (IntKind.i64.wrap (y1 + 1)) 1 1) ≤ (IntKind.i64.wrap (a0.tdiv 86400))) →
                    (∀ L2 : (Int → Prop),
                      ((
                          (∀ y3 : Int,
                            ((
                                (y3 < 12 →
                                  pDaysOf y1 (IntKind.i64.wrap (y3 + 1)) 1 ∧
                                  ((mDaysOf y1 (IntKind.i64.wrap (y3 + 1)) 1) ≤ (IntKind.i64.wrap (a0.tdiv 86400)) →
                                    (L2 (IntKind.i64.wrap (y3 + 1)))) ∧
                                  (¬ ((mDaysOf y1 (IntKind.i64.wrap (y3 + 1)) 1) ≤ (IntKind.i64.wrap (a0.tdiv 86400))) →
                                    pDaysOf y1 y3 1 ∧
                                    (7 : Int) ≠ 0 ∧
                                    0 ≤ ((IntKind.i64.wrap (a0.tdiv 86400)).tmod 7) ∧
                                    ((IntKind.i64.wrap (a0.tdiv 86400)).tmod 7) < (weekL.length : Int) ∧
                                    0 ≤ (IntKind.i64.wrap (y3 - 1)) ∧
                                    (IntKind.i64.wrap (y3 - 1)) < (monthL.length : Int) ∧
                                    (rx weekL ((IntKind.i64.wrap (a0.tdiv 86400)).tmod 7)).size + (lit [44, 32]).size ≤ 9223372036854775807 ∧
                                    pL4Two (IntKind.i64.wrap ((IntKind.i64.wrap ((IntKind.i64.wrap (a0.tdiv 86400)) - (mDaysOf y1 y3 1))) + 1)) ∧
                                    ((rx weekL ((IntKind.i64.wrap (a0.tdiv 86400)).tmod 7)) ++ (lit [44, 32])).size + (mL4Two (IntKind.i64.wrap ((IntKind.i64.wrap ((IntKind.i64.wrap (a0.tdiv 86400)) - (mDaysOf y1 y3 1))) + 1))).size ≤ 9223372036854775807 ∧
                                    (((rx weekL ((IntKind.i64.wrap (a0.tdiv 86400)).tmod 7)) ++ (lit [44, 32])) ++ (mL4Two (IntKind.i64.wrap ((IntKind.i64.wrap ((IntKind.i64.wrap (a0.tdiv 86400)) - (mDaysOf y1 y3 1))) + 1)))).size + (lit [32]).size ≤ 9223372036854775807 ∧
                                    ((((rx weekL ((IntKind.i64.wrap (a0.tdiv 86400)).tmod 7)) ++ (lit [44, 32])) ++ (mL4Two (IntKind.i64.wrap ((IntKind.i64.wrap ((IntKind.i64.wrap (a0.tdiv 86400)) - (mDaysOf y1 y3 1))) + 1)))) ++ (lit [32])).size + (rx monthL (IntKind.i64.wrap (y3 - 1))).size ≤ 9223372036854775807 ∧
                                    (((((rx weekL ((IntKind.i64.wrap (a0.tdiv 86400)).tmod 7)) ++ (lit [44, 32])) ++ (mL4Two (IntKind.i64.wrap ((IntKind.i64.wrap ((IntKind.i64.wrap (a0.tdiv 86400)) - (mDaysOf y1 y3 1))) + 1)))) ++ (lit [32])) ++ (rx monthL (IntKind.i64.wrap (y3 - 1)))).size + (lit [32]).size ≤ 9223372036854775807 ∧
                                    pDec y1 ∧
                                    ((((((rx weekL ((IntKind.i64.wrap (a0.tdiv 86400)).tmod 7)) ++ (lit [44, 32])) ++ (mL4Two (IntKind.i64.wrap ((IntKind.i64.wrap ((IntKind.i64.wrap (a0.tdiv 86400)) - (mDaysOf y1 y3 1))) + 1)))) ++ (lit [32])) ++ (rx monthL (IntKind.i64.wrap (y3 - 1)))) ++ (lit [32])).size + (mDec y1).size ≤ 9223372036854775807 ∧
                                    (((((((rx weekL ((IntKind.i64.wrap (a0.tdiv 86400)).tmod 7)) ++ (lit [44, 32])) ++ (mL4Two (IntKind.i64.wrap ((IntKind.i64.wrap ((IntKind.i64.wrap (a0.tdiv 86400)) - (mDaysOf y1 y3 1))) + 1)))) ++ (lit [32])) ++ (rx monthL (IntKind.i64.wrap (y3 - 1)))) ++ (lit [32])) ++ (mDec y1)).size + (lit [32]).size ≤ 9223372036854775807 ∧
                                    (3600 : Int) ≠ 0 ∧
                                    (24 : Int) ≠ 0 ∧
                                    pL4Two ((IntKind.i64.wrap (a0.tdiv 3600)).tmod 24) ∧
                                    ((((((((rx weekL ((IntKind.i64.wrap (a0.tdiv 86400)).tmod 7)) ++ (lit [44, 32])) ++ (mL4Two (IntKind.i64.wrap ((IntKind.i64.wrap ((IntKind.i64.wrap (a0.tdiv 86400)) - (mDaysOf y1 y3 1))) + 1)))) ++ (lit [32])) ++ (rx monthL (IntKind.i64.wrap (y3 - 1)))) ++ (lit [32])) ++ (mDec y1)) ++ (lit [32])).size + (mL4Two ((IntKind.i64.wrap (a0.tdiv 3600)).tmod 24)).size ≤ 9223372036854775807 ∧
                                    (((((((((rx weekL ((IntKind.i64.wrap (a0.tdiv 86400)).tmod 7)) ++ (lit [44, 32])) ++ (mL4Two (IntKind.i64.wrap ((IntKind.i64.wrap ((IntKind.i64.wrap (a0.tdiv 86400)) - (mDaysOf y1 y3 1))) + 1)))) ++ (lit [32])) ++ (rx monthL (IntKind.i64.wrap (y3 - 1)))) ++ (lit [32])) ++ (mDec y1)) ++ (lit [32])) ++ (mL4Two ((IntKind.i64.wrap (a0.tdiv 3600)).tmod 24))).size + (lit [58]).size ≤ 9223372036854775807 ∧
                                    (60 : Int) ≠ 0 ∧
                                    (60 : Int) ≠ 0 ∧
                                    pL4Two ((IntKind.i64.wrap (a0.tdiv 60)).tmod 60) ∧
                                    ((((((((((rx weekL ((IntKind.i64.wrap (a0.tdiv 86400)).tmod 7)) ++ (lit [44, 32])) ++ (mL4Two (IntKind.i64.wrap ((IntKind.i64.wrap ((IntKind.i64.wrap (a0.tdiv 86400)) - (mDaysOf y1 y3 1))) + 1)))) ++ (lit [32])) ++ (rx monthL (IntKind.i64.wrap (y3 - 1)))) ++ (lit [32])) ++ (mDec y1)) ++ (lit [32])) ++ (mL4Two ((IntKind.i64.wrap (a0.tdiv 3600)).tmod 24))) ++ (lit [58])).size + (mL4Two ((IntKind.i64.wrap (a0.tdiv 60)).tmod 60)).size ≤ 9223372036854775807 ∧
                                    (((((((((((rx weekL ((IntKind.i64.wrap (a0.tdiv 86400)).tmod 7)) ++ (lit [44, 32])) ++ (mL4Two (IntKind.i64.wrap ((IntKind.i64.wrap ((IntKind.i64.wrap (a0.tdiv 86400)) - (mDaysOf y1 y3 1))) + 1)))) ++ (lit [32])) ++ (rx monthL (IntKind.i64.wrap (y3 - 1)))) ++ (lit [32])) ++ (mDec y1)) ++ (lit [32])) ++ (mL4Two ((IntKind.i64.wrap (a0.tdiv 3600)).tmod 24))) ++ (lit [58])) ++ (mL4Two ((IntKind.i64.wrap (a0.tdiv 60)).tmod 60))).size + (lit [58]).size ≤ 9223372036854775807 ∧
                                    (60 : Int) ≠ 0 ∧
                                    pL4Two (a0.tmod 60) ∧
                                    ((((((((((((rx weekL ((IntKind.i64.wrap (a0.tdiv 86400)).tmod 7)) ++ (lit [44, 32])) ++ (mL4Two (IntKind.i64.wrap ((IntKind.i64.wrap ((IntKind.i64.wrap (a0.tdiv 86400)) - (mDaysOf y1 y3 1))) + 1)))) ++ (lit [32])) ++ (rx monthL (IntKind.i64.wrap (y3 - 1)))) ++ (lit [32])) ++ (mDec y1)) ++ (lit [32])) ++ (mL4Two ((IntKind.i64.wrap (a0.tdiv 3600)).tmod 24))) ++ (lit [58])) ++ (mL4Two ((IntKind.i64.wrap (a0.tdiv 60)).tmod 60))) ++ (lit [58])).size + (mL4Two (a0.tmod 60)).size ≤ 9223372036854775807 ∧
                                    (((((((((((((rx weekL ((IntKind.i64.wrap (a0.tdiv 86400)).tmod 7)) ++ (lit [44, 32])) ++ (mL4Two (IntKind.i64.wrap ((IntKind.i64.wrap ((IntKind.i64.wrap (a0.tdiv 86400)) - (mDaysOf y1 y3 1))) + 1)))) ++ (lit [32])) ++ (rx monthL (IntKind.i64.wrap (y3 - 1)))) ++ (lit [32])) ++ (mDec y1)) ++ (lit [32])) ++ (mL4Two ((IntKind.i64.wrap (a0.tdiv 3600)).tmod 24))) ++ (lit [58])) ++ (mL4Two ((IntKind.i64.wrap (a0.tdiv 60)).tmod 60))) ++ (lit [58])) ++ (mL4Two (a0.tmod 60))).size + (lit [32, 71, 77, 84]).size ≤ 9223372036854775807 ∧
                                    (Q ((((((((((((((rx weekL ((IntKind.i64.wrap (a0.tdiv 86400)).tmod 7)) ++ (lit [44, 32])) ++ (mL4Two (IntKind.i64.wrap ((IntKind.i64.wrap ((IntKind.i64.wrap (a0.tdiv 86400)) - (mDaysOf y1 y3 1))) + 1)))) ++ (lit [32])) ++ (rx monthL (IntKind.i64.wrap (y3 - 1)))) ++ (lit [32])) ++ (mDec y1)) ++ (lit [32])) ++ (mL4Two ((IntKind.i64.wrap (a0.tdiv 3600)).tmod 24))) ++ (lit [58])) ++ (mL4Two ((IntKind.i64.wrap (a0.tdiv 60)).tmod 60))) ++ (lit [58])) ++ (mL4Two (a0.tmod 60))) ++ (lit [32, 71, 77, 84]))))) ∧
                                (¬ (y3 < 12) →
                                  pDaysOf y1 y3 1 ∧
                                  (7 : Int) ≠ 0 ∧
                                  0 ≤ ((IntKind.i64.wrap (a0.tdiv 86400)).tmod 7) ∧
                                  ((IntKind.i64.wrap (a0.tdiv 86400)).tmod 7) < (weekL.length : Int) ∧
                                  0 ≤ (IntKind.i64.wrap (y3 - 1)) ∧
                                  (IntKind.i64.wrap (y3 - 1)) < (monthL.length : Int) ∧
                                  (rx weekL ((IntKind.i64.wrap (a0.tdiv 86400)).tmod 7)).size + (lit [44, 32]).size ≤ 9223372036854775807 ∧
                                  pL4Two (IntKind.i64.wrap ((IntKind.i64.wrap ((IntKind.i64.wrap (a0.tdiv 86400)) - (mDaysOf y1 y3 1))) + 1)) ∧
                                  ((rx weekL ((IntKind.i64.wrap (a0.tdiv 86400)).tmod 7)) ++ (lit [44, 32])).size + (mL4Two (IntKind.i64.wrap ((IntKind.i64.wrap ((IntKind.i64.wrap (a0.tdiv 86400)) - (mDaysOf y1 y3 1))) + 1))).size ≤ 9223372036854775807 ∧
                                  (((rx weekL ((IntKind.i64.wrap (a0.tdiv 86400)).tmod 7)) ++ (lit [44, 32])) ++ (mL4Two (IntKind.i64.wrap ((IntKind.i64.wrap ((IntKind.i64.wrap (a0.tdiv 86400)) - (mDaysOf y1 y3 1))) + 1)))).size + (lit [32]).size ≤ 9223372036854775807 ∧
                                  ((((rx weekL ((IntKind.i64.wrap (a0.tdiv 86400)).tmod 7)) ++ (lit [44, 32])) ++ (mL4Two (IntKind.i64.wrap ((IntKind.i64.wrap ((IntKind.i64.wrap (a0.tdiv 86400)) - (mDaysOf y1 y3 1))) + 1)))) ++ (lit [32])).size + (rx monthL (IntKind.i64.wrap (y3 - 1))).size ≤ 9223372036854775807 ∧
                                  (((((rx weekL ((IntKind.i64.wrap (a0.tdiv 86400)).tmod 7)) ++ (lit [44, 32])) ++ (mL4Two (IntKind.i64.wrap ((IntKind.i64.wrap ((IntKind.i64.wrap (a0.tdiv 86400)) - (mDaysOf y1 y3 1))) + 1)))) ++ (lit [32])) ++ (rx monthL (IntKind.i64.wrap (y3 - 1)))).size + (lit [32]).size ≤ 9223372036854775807 ∧
                                  pDec y1 ∧
                                  ((((((rx weekL ((IntKind.i64.wrap (a0.tdiv 86400)).tmod 7)) ++ (lit [44, 32])) ++ (mL4Two (IntKind.i64.wrap ((IntKind.i64.wrap ((IntKind.i64.wrap (a0.tdiv 86400)) - (mDaysOf y1 y3 1))) + 1)))) ++ (lit [32])) ++ (rx monthL (IntKind.i64.wrap (y3 - 1)))) ++ (lit [32])).size + (mDec y1).size ≤ 9223372036854775807 ∧
                                  (((((((rx weekL ((IntKind.i64.wrap (a0.tdiv 86400)).tmod 7)) ++ (lit [44, 32])) ++ (mL4Two (IntKind.i64.wrap ((IntKind.i64.wrap ((IntKind.i64.wrap (a0.tdiv 86400)) - (mDaysOf y1 y3 1))) + 1)))) ++ (lit [32])) ++ (rx monthL (IntKind.i64.wrap (y3 - 1)))) ++ (lit [32])) ++ (mDec y1)).size + (lit [32]).size ≤ 9223372036854775807 ∧
                                  (3600 : Int) ≠ 0 ∧
                                  (24 : Int) ≠ 0 ∧
                                  pL4Two ((IntKind.i64.wrap (a0.tdiv 3600)).tmod 24) ∧
                                  ((((((((rx weekL ((IntKind.i64.wrap (a0.tdiv 86400)).tmod 7)) ++ (lit [44, 32])) ++ (mL4Two (IntKind.i64.wrap ((IntKind.i64.wrap ((IntKind.i64.wrap (a0.tdiv 86400)) - (mDaysOf y1 y3 1))) + 1)))) ++ (lit [32])) ++ (rx monthL (IntKind.i64.wrap (y3 - 1)))) ++ (lit [32])) ++ (mDec y1)) ++ (lit [32])).size + (mL4Two ((IntKind.i64.wrap (a0.tdiv 3600)).tmod 24)).size ≤ 9223372036854775807 ∧
                                  (((((((((rx weekL ((IntKind.i64.wrap (a0.tdiv 86400)).tmod 7)) ++ (lit [44, 32])) ++ (mL4Two (IntKind.i64.wrap ((IntKind.i64.wrap ((IntKind.i64.wrap (a0.tdiv 86400)) - (mDaysOf y1 y3 1))) + 1)))) ++ (lit [32])) ++ (rx monthL (IntKind.i64.wrap (y3 - 1)))) ++ (lit [32])) ++ (mDec y1)) ++ (lit [32])) ++ (mL4Two ((IntKind.i64.wrap (a0.tdiv 3600)).tmod 24))).size + (lit [58]).size ≤ 9223372036854775807 ∧
                                  (60 : Int) ≠ 0 ∧
                                  (60 : Int) ≠ 0 ∧
                                  pL4Two ((IntKind.i64.wrap (a0.tdiv 60)).tmod 60) ∧
                                  ((((((((((rx weekL ((IntKind.i64.wrap (a0.tdiv 86400)).tmod 7)) ++ (lit [44, 32])) ++ (mL4Two (IntKind.i64.wrap ((IntKind.i64.wrap ((IntKind.i64.wrap (a0.tdiv 86400)) - (mDaysOf y1 y3 1))) + 1)))) ++ (lit [32])) ++ (rx monthL (IntKind.i64.wrap (y3 - 1)))) ++ (lit [32])) ++ (mDec y1)) ++ (lit [32])) ++ (mL4Two ((IntKind.i64.wrap (a0.tdiv 3600)).tmod 24))) ++ (lit [58])).size + (mL4Two ((IntKind.i64.wrap (a0.tdiv 60)).tmod 60)).size ≤ 9223372036854775807 ∧
                                  (((((((((((rx weekL ((IntKind.i64.wrap (a0.tdiv 86400)).tmod 7)) ++ (lit [44, 32])) ++ (mL4Two (IntKind.i64.wrap ((IntKind.i64.wrap ((IntKind.i64.wrap (a0.tdiv 86400)) - (mDaysOf y1 y3 1))) + 1)))) ++ (lit [32])) ++ (rx monthL (IntKind.i64.wrap (y3 - 1)))) ++ (lit [32])) ++ (mDec y1)) ++ (lit [32])) ++ (mL4Two ((IntKind.i64.wrap (a0.tdiv 3600)).tmod 24))) ++ (lit [58])) ++ (mL4Two ((IntKind.i64.wrap (a0.tdiv 60)).tmod 60))).size + (lit [58]).size ≤ 9223372036854775807 ∧
                                  (60 : Int) ≠ 0 ∧
                                  pL4Two (a0.tmod 60) ∧
                                  ((((((((((((rx weekL ((IntKind.i64.wrap (a0.tdiv 86400)).tmod 7)) ++ (lit [44, 32])) ++ (mL4Two (IntKind.i64.wrap ((IntKind.i64.wrap ((IntKind.i64.wrap (a0.tdiv 86400)) - (mDaysOf y1 y3 1))) + 1)))) ++ (lit [32])) ++ (rx monthL (IntKind.i64.wrap (y3 - 1)))) ++ (lit [32])) ++ (mDec y1)) ++ (lit [32])) ++ (mL4Two ((IntKind.i64.wrap (a0.tdiv 3600)).tmod 24))) ++ (lit [58])) ++ (mL4Two ((IntKind.i64.wrap (a0.tdiv 60)).tmod 60))) ++ (lit [58])).size + (mL4Two (a0.tmod 60)).size ≤ 9223372036854775807 ∧
                                  (((((((((((((rx weekL ((IntKind.i64.wrap (a0.tdiv 86400)).tmod 7)) ++ (lit [44, 32])) ++ (mL4Two (IntKind.i64.wrap ((IntKind.i64.wrap ((IntKind.i64.wrap (a0.tdiv 86400)) - (mDaysOf y1 y3 1))) + 1)))) ++ (lit [32])) ++ (rx monthL (IntKind.i64.wrap (y3 - 1)))) ++ (lit [32])) ++ (mDec y1)) ++ (lit [32])) ++ (mL4Two ((IntKind.i64.wrap (a0.tdiv 3600)).tmod 24))) ++ (lit [58])) ++ (mL4Two ((IntKind.i64.wrap (a0.tdiv 60)).tmod 60))) ++ (lit [58])) ++ (mL4Two (a0.tmod 60))).size + (lit [32, 71, 77, 84]).size ≤ 9223372036854775807 ∧
                                  (Q ((((((((((((((rx weekL ((IntKind.i64.wrap (a0.tdiv 86400)).tmod 7)) ++ (lit [44, 32])) ++ (mL4Two (IntKind.i64.wrap ((IntKind.i64.wrap ((IntKind.i64.wrap (a0.tdiv 86400)) - (mDaysOf y1 y3 1))) + 1)))) ++ (lit [32])) ++ (rx monthL (IntKind.i64.wrap (y3 - 1)))) ++ (lit [32])) ++ (mDec y1)) ++ (lit [32])) ++ (mL4Two ((IntKind.i64.wrap (a0.tdiv 3600)).tmod 24))) ++ (lit [58])) ++ (mL4Two ((IntKind.i64.wrap (a0.tdiv 60)).tmod 60))) ++ (lit [58])) ++ (mL4Two (a0.tmod 60))) ++ (lit [32, 71, 77, 84]))))
                              ) →
                              (L2 y3)))
                        ) →
                        (L2 1))))) ∧
                (¬ (y1 < 2037) →
                  (∀ L4 : (Int → Prop),
                    ((
                        (∀ y5 : Int,
                          ((
                              (y5 < 12 →
                                pDaysOf y1 (IntKind.i64.wrap (y5 + 1)) 1 ∧
                                ((mDaysOf y1 (IntKind.i64.wrap (y5 + 1)) 1) ≤ (IntKind.i64.wrap (a0.tdiv 86400)) →
                                  (L4 (IntKind.i64.wrap (y5 + 1)))) ∧
                                (¬ ((mDaysOf y1 (IntKind.i64.wrap (y5 + 1)) 1) ≤ (IntKind.i64.wrap (a0.tdiv 86400))) →
                                  pDaysOf y1 y5 1 ∧
                                  (7 : Int) ≠ 0 ∧
                                  0 ≤ ((IntKind.i64.wrap (a0.tdiv 86400)).tmod 7) ∧
                                  ((IntKind.i64.wrap (a0.tdiv 86400)).tmod 7) < (weekL.length : Int) ∧
                                  0 ≤ (IntKind.i64.wrap (y5 - 1)) ∧
                                  (IntKind.i64.wrap (y5 - 1)) < (monthL.length : Int) ∧
                                  (rx weekL ((IntKind.i64.wrap (a0.tdiv 86400)).tmod 7)).size + (lit [44, 32]).size ≤ 9223372036854775807 ∧
                                  pL4Two (IntKind.i64.wrap ((IntKind.i64.wrap ((IntKind.i64.wrap (a0.tdiv 86400)) - (mDaysOf y1 y5 1))) + 1)) ∧
                                  ((rx weekL ((IntKind.i64.wrap (a0.tdiv 86400)).tmod 7)) ++ (lit [44, 32])).size + (mL4Two (IntKind.i64.wrap ((IntKind.i64.wrap ((IntKind.i64.wrap (a0.tdiv 86400)) - (mDaysOf y1 y5 1))) + 1))).size ≤ 9223372036854775807 ∧
                                  (((rx weekL ((IntKind.i64.wrap (a0.tdiv 86400)).tmod 7)) ++ (lit [44, 32])) ++ (mL4Two (IntKind.i64.wrap ((IntKind.i64.wrap ((IntKind.i64.wrap (a0.tdiv 86400)) - (mDaysOf y1 y5 1))) + 1)))).size + (lit [32]).size ≤ 9223372036854775807 ∧
                                  ((((rx weekL ((IntKind.i64.wrap (a0.tdiv 86400)).tmod 7)) ++ (lit [44, 32])) ++ (mL4Two (IntKind.i64.wrap ((IntKind.i64.wrap ((IntKind.i64.wrap (a0.tdiv 86400)) - (mDaysOf y1 y5 1))) + 1)))) ++ (lit [32])).size + (rx monthL (IntKind.i64.wrap (y5 - 1))).size ≤ 9223372036854775807 ∧
                                  (((((rx weekL ((IntKind.i64.wrap (a0.tdiv 86400)).tmod 7)) ++ (lit [44, 32])) ++ (mL4Two (IntKind.i64.wrap ((IntKind.i64.wrap ((IntKind.i64.wrap (a0.tdiv 86400)) - (mDaysOf y1 y5 1))) + 1)))) ++ (lit [32])) ++ (rx monthL (IntKind.i64.wrap (y5 - 1)))).size + (lit [32]).size ≤ 9223372036854775807 ∧
                                  pDec y1 ∧
                                  ((((((rx weekL ((IntKind.i64.wrap (a0.tdiv 86400)).tmod 7)) ++ (lit [44, 32])) ++ (mL4Two (IntKind.i64.wrap ((IntKind.i64.wrap ((IntKind.i64.wrap (a0.tdiv 86400)) - (mDaysOf y1 y5 1))) + 1)))) ++ (lit [32])) ++ (rx monthL (IntKind.i64.wrap (y5 - 1)))) ++ (lit [32])).size + (mDec y1).size ≤ 9223372036854775807 ∧
                                  (((((((rx weekL ((IntKind.i64.wrap (a0.tdiv 86400)).tmod 7)) ++ (lit [44, 32])) ++ (mL4Two (IntKind.i64.wrap ((IntKind.i64.wrap ((IntKind.i64.wrap (a0.tdiv 86400)) - (mDaysOf y1 y5 1))) + 1)))) ++ (lit [32])) ++ (rx monthL (IntKind.i64.wrap (y5 - 1)))) ++ (lit [32])) ++ (mDec y1)).size + (lit [32]).size ≤ 9223372036854775807 ∧
                                  (3600 : Int) ≠ 0 ∧
                                  (24 : Int) ≠ 0 ∧
                                  pL4Two ((IntKind.i64.wrap (a0.tdiv 3600)).tmod 24) ∧
                                  ((((((((rx weekL ((IntKind.i64.wrap (a0.tdiv 86400)).tmod 7)) ++ (lit [44, 32])) ++ (mL4Two (IntKind.i64.wrap ((IntKind.i64.wrap ((IntKind.i64.wrap (a0.tdiv 86400)) - (mDaysOf y1 y5 1))) + 1)))) ++ (lit [32])) ++ (rx monthL (IntKind.i64.wrap (y5 - 1)))) ++ (lit [32])) ++ (mDec y1)) ++ (lit [32])).size + (mL4Two ((IntKind.i64.wrap (a0.tdiv 3600)).tmod 24)).size ≤ 9223372036854775807 ∧
                                  (((((((((rx weekL ((IntKind.i64.wrap (a0.tdiv 86400)).tmod 7)) ++ (lit [44, 32])) ++ (mL4Two (IntKind.i64.wrap ((IntKind.i64.wrap ((IntKind.i64.wrap (a0.tdiv 86400)) - (mDaysOf y1 y5 1))) + 1)))) ++ (lit [32])) ++ (rx monthL (IntKind.i64.wrap (y5 - 1)))) ++ (lit [32])) ++ (mDec y1)) ++ (lit [32])) ++ (mL4Two ((IntKind.i64.wrap (a0.tdiv 3600)).tmod 24))).size + (lit [58]).size ≤ 9223372036854775807 ∧
                                  (60 : Int) ≠ 0 ∧
                                  (60 : Int) ≠ 0 ∧
                                  pL4Two ((IntKind.i64.wrap (a0.tdiv 60)).tmod 60) ∧
                                  ((((((((((rx weekL ((IntKind.i64.wrap (a0.tdiv 86400)).tmod 7)) ++ (lit [44, 32])) ++ (mL4Two (IntKind.i64.wrap ((IntKind.i64.wrap ((IntKind.i64.wrap (a0.tdiv 86400)) - (mDaysOf y1 y5 1))) + 1)))) ++ (lit [32])) ++ (rx monthL (IntKind.i64.wrap (y5 - 1)))) ++ (lit [32])) ++ (mDec y1)) ++ (lit [32])) ++ (mL4Two ((IntKind.i64.wrap (a0.tdiv 3600)).tmod 24))) ++ (lit [58])).size + (mL4Two ((IntKind.i64.wrap (a0.tdiv 60)).tmod 60)).size ≤ 9223372036854775807 ∧
                                  (((((((((((rx weekL ((IntKind.i64.wrap (a0.tdiv 86400)).tmod 7)) ++ (lit [44, 32])) ++ (mL4Two (IntKind.i64.wrap ((IntKind.i64.wrap ((IntKind.i64.wrap (a0.tdiv 86400)) - (mDaysOf y1 y5 1))) + 1)))) ++ (lit [32])) ++ (rx monthL (IntKind.i64.wrap (y5 - 1)))) ++ (lit [32])) ++ (mDec y1)) ++ (lit [32])) ++ (mL4Two ((IntKind.i64.wrap (a0.tdiv 3600)).tmod 24))) ++ (lit [58])) ++ (mL4Two ((IntKind.i64.wrap (a0.tdiv 60)).tmod 60))).size + (lit [58]).size ≤ 9223372036854775807 ∧
                                  (60 : Int) ≠ 0 ∧
                                  pL4Two (a0.tmod 60) ∧
                                  ((((((((((((rx weekL ((IntKind.i64.wrap (a0.tdiv 86400)).tmod 7)) ++ (lit [44, 32])) ++ (mL4Two (IntKind.i64.wrap ((IntKind.i64.wrap ((IntKind.i64.wrap (a0.tdiv 86400)) - (mDaysOf y1 y5 1))) + 1)))) ++ (lit [32])) ++ (rx monthL (IntKind.i64.wrap (y5 - 1)))) ++ (lit [32])) ++ (mDec y1)) ++ (lit [32])) ++ (mL4Two ((IntKind.i64.wrap (a0.tdiv 3600)).tmod 24))) ++ (lit [58])) ++ (mL4Two ((IntKind.i64.wrap (a0.tdiv 60)).tmod 60))) ++ (lit [58])).size + (mL4Two (a0.tmod 60)).size ≤ 9223372036854775807 ∧
                                  (((((((((((((rx weekL ((IntKind.i64.wrap (a0.tdiv 86400)).tmod 7)) ++ (lit [44, 32])) ++ (mL4Two (IntKind.i64.wrap ((IntKind.i64.wrap ((IntKind.i64.wrap (a0.tdiv 86400)) - (mDaysOf y1 y5 1))) + 1)))) ++ (lit [32])) ++ (rx monthL (IntKind.i64.wrap (y5 - 1)))) ++ (lit [32])) ++ (mDec y1)) ++ (lit [32])) ++ (mL4Two ((IntKind.i64.wrap (a0.tdiv 3600)).tmod 24))) ++ (lit [58])) ++ (mL4Two ((IntKind.i64.wrap (a0.tdiv 60)).tmod 60))) ++ (lit [58])) ++ (mL4Two (a0.tmod 60))).size + (lit [32, 71, 77, 84]).size ≤ 9223372036854775807 ∧
                                  (Q ((((((((((((((rx weekL ((IntKind.i64.wrap (a0.tdiv 86400)).tmod 7)) ++ (lit [44, 32])) ++ (mL4Two (IntKind.i64.wrap ((IntKind.i64.wrap ((IntKind.i64.wrap (a0.tdiv 86400)) - (mDaysOf y1 y5 1))) + 1)))) ++ (lit [32])) ++ (rx monthL (IntKind.i64.wrap (y5 - 1)))) ++ (lit [32])) ++ (mDec y1)) ++ (lit [32])) ++ (mL4Two ((IntKind.i64.wrap (a0.tdiv 3600)).tmod 24))) ++ (lit [58])) ++ (mL4Two ((IntKind.i64.wrap (a0.tdiv 60)).tmod 60))) ++ (lit [58])) ++ (mL4Two (a0.tmod 60))) ++ (lit [32, 71, 77, 84]))))) ∧
                              (¬ (y5 < 12) →
                                pDaysOf y1 y5 1 ∧
                                (7 : Int) ≠ 0 ∧
                                0 ≤ ((IntKind.i64.wrap (a0.tdiv 86400)).tmod 7) ∧
                                ((IntKind.i64.wrap (a0.tdiv 86400)).tmod 7) < (weekL.length : Int) ∧
                                0 ≤ (IntKind.i64.wrap (y5 - 1)) ∧
                                (IntKind.i64.wrap (y5 - 1)) < (monthL.length : Int) ∧
                                (rx weekL ((IntKind.i64.wrap (a0.tdiv 86400)).tmod 7)).size + (lit [44, 32]).size ≤ 9223372036854775807 ∧
                                pL4Two (IntKind.i64.wrap ((IntKind.i64.wrap ((IntKind.i64.wrap (a0.tdiv 86400)) - (mDaysOf y1 y5 1))) + 1)) ∧
                                ((rx weekL ((IntKind.i64.wrap (a0.tdiv 86400)).tmod 7)) ++ (lit [44, 32])).size + (mL4Two (IntKind.i64.wrap ((IntKind.i64.wrap ((IntKind.i64.wrap (a0.tdiv 86400)) - (mDaysOf y1 y5 1))) + 1))).size ≤ 9223372036854775807 ∧
                                (((rx weekL ((IntKind.i64.wrap (a0.tdiv 86400)).tmod 7)) ++ (lit [44, 32])) ++ (mL4Two (IntKind.i64.wrap ((IntKind.i64.wrap ((IntKind.i64.wrap (a0.tdiv 86400)) - (mDaysOf y1 y5 1))) + 1)))).size + (lit [32]).size ≤ 9223372036854775807 ∧
                                ((((rx weekL ((IntKind.i64.wrap (a0.tdiv 86400)).tmod 7)) ++ (lit [44, 32])) ++ (mL4Two (IntKind.i64.wrap ((IntKind.i64.wrap ((IntKind.i64.wrap (a0.tdiv 86400)) - (mDaysOf y1 y5 1))) + 1)))) ++ (lit [32])).size + (rx monthL (IntKind.i64.wrap (y5 - 1))).size ≤ 9223372036854775807 ∧
                                (((((rx weekL ((IntKind.i64.wrap (a0.tdiv 86400)).tmod 7)) ++ (lit [44, 32])) ++ (mL4Two (IntKind.i64.wrap ((IntKind.i64.wrap ((IntKind.i64.wrap (a0.tdiv 86400)) - (mDaysOf y1 y5 1))) + 1)))) ++ (lit [32])) ++ (rx monthL (IntKind.i64.wrap (y5 - 1)))).size + (lit [32]).size ≤ 9223372036854775807 ∧
                                pDec y1 ∧
                                ((((((rx weekL ((IntKind.i64.wrap (a0.tdiv 86400)).tmod 7)) ++ (lit [44, 32])) ++ (mL4Two (IntKind.i64.wrap ((IntKind.i64.wrap ((IntKind.i64.wrap (a0.tdiv 86400)) - (mDaysOf y1 y5 1))) + 1)))) ++ (lit [32])) ++ (rx monthL (IntKind.i64.wrap (y5 - 1)))) ++ (lit [32])).size + (mDec y1).size ≤ 9223372036854775807 ∧
                                (((((((rx weekL ((IntKind.i64.wrap (a0.tdiv 86400)).tmod 7)) ++ (lit [44, 32])) ++ (mL4Two (IntKind.i64.wrap ((IntKind.i64.wrap ((IntKind.i64.wrap (a0.tdiv 86400)) - (mDaysOf y1 y5 1))) + 1)))) ++ (lit [32])) ++ (rx monthL (IntKind.i64.wrap (y5 - 1)))) ++ (lit [32])) ++ (mDec y1)).size + (lit [32]).size ≤ 9223372036854775807 ∧
                                (3600 : Int) ≠ 0 ∧
                                (24 : Int) ≠ 0 ∧
                                pL4Two ((IntKind.i64.wrap (a0.tdiv 3600)).tmod 24) ∧
                                ((((((((rx weekL ((IntKind.i64.wrap (a0.tdiv 86400)).tmod 7)) ++ (lit [44, 32])) ++ (mL4Two (IntKind.i64.wrap ((IntKind.i64.wrap ((IntKind.i64.wrap (a0.tdiv 86400)) - (mDaysOf y1 y5 1))) + 1)))) ++ (lit [32])) ++ (rx monthL (IntKind.i64.wrap (y5 - 1)))) ++ (lit [32])) ++ (mDec y1)) ++ (lit [32])).size + (mL4Two ((IntKind.i64.wrap (a0.tdiv 3600)).tmod 24)).size ≤ 9223372036854775807 ∧
                                (((((((((rx weekL ((IntKind.i64.wrap (a0.tdiv 86400)).tmod 7)) ++ (lit [44, 32])) ++ (mL4Two (IntKind.i64.wrap ((IntKind.i64.wrap ((IntKind.i64.wrap (a0.tdiv 86400)) - (mDaysOf y1 y5 1))) + 1)))) ++ (lit [32])) ++ (rx monthL (IntKind.i64.wrap (y5 - 1)))) ++ (lit [32])) ++ (mDec y1)) ++ (lit [32])) ++ (mL4Two ((IntKind.i64.wrap (a0.tdiv 3600)).tmod 24))).size + (lit [58]).size ≤ 9223372036854775807 ∧
                                (60 : Int) ≠ 0 ∧
                                (60 : Int) ≠ 0 ∧
                                pL4Two ((IntKind.i64.wrap (a0.tdiv 60)).tmod 60) ∧
                                ((((((((((rx weekL ((IntKind.i64.wrap (a0.tdiv 86400)).tmod 7)) ++ (lit [44, 32])) ++ (mL4Two (IntKind.i64.wrap ((IntKind.i64.wrap ((IntKind.i64.wrap (a0.tdiv 86400)) - (mDaysOf y1 y5 1))) + 1)))) ++ (lit [32])) ++ (rx monthL (IntKind.i64.wrap (y5 - 1)))) ++ (lit [32])) ++ (mDec y1)) ++ (lit [32])) ++ (mL4Two ((IntKind.i64.wrap (a0.tdiv 3600)).tmod 24))) ++ (lit [58])).size + (mL4Two ((IntKind.i64.wrap (a0.tdiv 60)).tmod 60)).size ≤ 9223372036854775807 ∧
                                (((((((((((rx weekL ((IntKind.i64.wrap (a0.tdiv 86400)).tmod 7)) ++ (lit [44, 32])) ++ (mL4Two (IntKind.i64.wrap ((IntKind.i64.wrap ((IntKind.i64.wrap (a0.tdiv 86400)) - (mDaysOf y1 y5 1))) + 1)))) ++ (lit [32])) ++ (rx monthL (IntKind.i64.wrap (y5 - 1)))) ++ (lit [32])) ++ (mDec y1)) ++ (lit [32])) ++ (mL4Two ((IntKind.i64.wrap (a0.tdiv 3600)).tmod 24))) ++ (lit [58])) ++ (mL4Two ((IntKind.i64.wrap (a0.tdiv 60)).tmod 60))).size + (lit [58]).size ≤ 9223372036854775807 ∧
                                (60 : Int) ≠ 0 ∧
                                pL4Two (a0.tmod 60) ∧
                                ((((((((((((rx weekL ((IntKind.i64.wrap (a0.tdiv 86400)).tmod 7)) ++ (lit [44, 32])) ++ (mL4Two (IntKind.i64.wrap ((IntKind.i64.wrap ((IntKind.i64.wrap (a0.tdiv 86400)) - (mDaysOf y1 y5 1))) + 1)))) ++ (lit [32])) ++ (rx monthL (IntKind.i64.wrap (y5 - 1)))) ++ (lit [32])) ++ (mDec y1)) ++ (lit [32])) ++ (mL4Two ((IntKind.i64.wrap (a0.tdiv 3600)).tmod 24))) ++ (lit [58])) ++ (mL4Two ((IntKind.i64.wrap (a0.tdiv 60)).tmod 60))) ++ (lit [58])).size + (mL4Two (a0.tmod 60)).size ≤ 9223372036854775807 ∧
                                (((((((((((((rx weekL ((IntKind.i64.wrap (a0.tdiv 86400)).tmod 7)) ++ (lit [44, 32])) ++ (mL4Two (IntKind.i64.wrap ((IntKind.i64.wrap ((IntKind.i64.wrap (a0.tdiv 86400)) - (mDaysOf y1 y5 1))) + 1)))) ++ (lit [32])) ++ (rx monthL (IntKind.i64.wrap (y5 - 1)))) ++ (lit [32])) ++ (mDec y1)) ++ (lit [32])) ++ (mL4Two ((IntKind.i64.wrap (a0.tdiv 3600)).tmod 24))) ++ (lit [58])) ++ (mL4Two ((IntKind.i64.wrap (a0.tdiv 60)).tmod 60))) ++ (lit [58])) ++ (mL4Two (a0.tmod 60))).size + (lit [32, 71, 77, 84]).size ≤ 9223372036854775807 ∧
                                (Q ((((((((((((((rx weekL ((IntKind.i64.wrap (a0.tdiv 86400)).tmod 7)) ++ (lit [44, 32])) ++ (mL4Two (IntKind.i64.wrap ((IntKind.i64.wrap ((IntKind.i64.wrap (a0.tdiv 86400)) - (mDaysOf y1 y5 1))) + 1)))) ++ (lit [32])) ++ (rx monthL (IntKind.i64.wrap (y5 - 1)))) ++ (lit [32])) ++ (mDec y1)) ++ (lit [32])) ++ (mL4Two ((IntKind.i64.wrap (a0.tdiv 3600)).tmod 24))) ++ (lit [58])) ++ (mL4Two ((IntKind.i64.wrap (a0.tdiv 60)).tmod 60))) ++ (lit [58])) ++ (mL4Two (a0.tmod 60))) ++ (lit [32, 71, 77, 84]))))
                            ) →
                            (L4 y5)))
                      ) →
                      (L4 1))))
              ) →
              (L0 y1)))
        ) →
        (L0 1970))))

def s_spec_l4Months (a0 : Int) (Q : ((List Int) → Prop)) : Prop :=
  pIsLeap a0 ∧
  ((mIsLeap a0) = true →
    (Q [31, 29, 31, 30, 31, 30, 31, 31, 30, 31, 30, 31])) ∧
  (¬ ((mIsLeap a0) = true) →
    (Q [31, 28, 31, 30, 31, 30, 31, 31, 30, 31, 30, 31]))

def s_spec_l4Two (a0 : Int) (Q : (S → Prop)) : Prop :=
  (10 : Int) ≠ 0 ∧
  (10 : Int) ≠ 0 ∧
  (10 : Int) ≠ 0 ∧
  (Q (strOf [(IntKind.u8.wrap (IntKind.i64.wrap (48 + ((IntKind.i64.wrap (a0.tdiv 10)).tmod 10)))), (IntKind.u8.wrap (IntKind.i64.wrap (48 + (a0.tmod 10))))]))

end Go.Ev
end

section
/- Laws of the plain library: the calendar. -/
set_option linter.unusedVariables false
namespace Go.Ev
theorem tmodI {n k : Int} (h : 0 ≤ n) : n.tmod k = n % k := Int.tmod_eq_emod_of_nonneg h
theorem tdivI {n k : Int} (h : 0 ≤ n) : n.tdiv k = n / k := Int.tdiv_eq_ediv_of_nonneg h
def monthsB (b : Bool) : List Int := if b = true then [31, 29, 31, 30, 31, 30, 31, 31, 30, 31, 30, 31] else [31, 28, 31, 30, 31, 30, 31, 31, 30, 31, 30, 31]
theorem monthDays_tab : ∀ (b : Bool) (m : Fin 12), 28 ≤ rx (monthsB b) ((m.val : Nat) : Int) ∧ rx (monthsB b) ((m.val : Nat) : Int) ≤ 31 := by decide +kernel
theorem monthDays_range (y : Int) {m : Int} (h1 : 1 ≤ m) (h2 : m ≤ 12) : 28 ≤ mMonthDays y m ∧ mMonthDays y m ≤ 31 := by
  have := monthDays_tab (mIsLeap y) ⟨(m - 1).toNat, by omega⟩
  simp only at this
  rw [show (((m - 1).toNat : Nat) : Int) = m - 1 by omega] at this
  exact this
theorem yearDays_range (y : Int) : 365 ≤ mYearDays y ∧ mYearDays y ≤ 366 := by
  unfold mYearDays
  split <;> omega
theorem months_len (y : Int) : (mL4Months y).length = 12 := by unfold mL4Months; split <;> rfl
theorem daysM_tab : ∀ b : Bool, 0 + rx (monthsB b) 0 + rx (monthsB b) 1 + rx (monthsB b) 2 + rx (monthsB b) 3 + rx (monthsB b) 4 + rx (monthsB b) 5 + rx (monthsB b) 6 + rx (monthsB b) 7 + rx (monthsB b) 8 + rx (monthsB b) 9 + rx (monthsB b) 10 + rx (monthsB b) 11 = if b = true then 366 else 365 := by decide +kernel
theorem daysM_year (y : Int) : daysM y 12 = mYearDays y := daysM_tab (mIsLeap y)
theorem daysM_range (y : Int) : ∀ j : Nat, j ≤ 12 → 28 * (j : Int) ≤ daysM y j ∧ daysM y j ≤ 31 * j
  | 0, _ => by simp [daysM]
  | j + 1, h => by
    have h1 := daysM_range y j (by omega)
    have h2 := monthDays_range y (m := (j : Int) + 1) (by omega) (by omega)
    simp only [daysM]
    omega
theorem daysM_mono (y : Int) : ∀ {j k : Nat}, j ≤ k → k ≤ 12 → daysM y j ≤ daysM y k
  | j, 0, h, _ => by have : j = 0 := by omega
                     subst this; exact Int.le_refl _
  | j, k + 1, h, hk => by
    by_cases e : j = k + 1
    · subst e; exact Int.le_refl _
    · have h1 := daysM_mono y (j := j) (k := k) (by omega) (by omega)
      have h2 := monthDays_range y (m := (k : Int) + 1) (by omega) (by omega)
      simp only [daysM]
      omega
theorem daysY_range : ∀ k : Nat, 365 * (k : Int) ≤ daysY k ∧ daysY k ≤ 366 * k
  | 0 => by simp [daysY]
  | k + 1 => by
    have h1 := daysY_range k
    have h2 := yearDays_range (1970 + (k : Int))
    simp only [daysY]
    omega
theorem daysY_mono : ∀ {j k : Nat}, j ≤ k → daysY j ≤ daysY k
  | j, 0, h => by have : j = 0 := by omega
                  subst this; exact Int.le_refl _
  | j, k + 1, h => by
    by_cases e : j = k + 1
    · subst e; exact Int.le_refl _
    · have h1 := daysY_mono (j := j) (k := k) (by omega)
      have h2 := yearDays_range (1970 + (k : Int))
      simp only [daysY]
      omega
theorem civil_year {n : Int} {k j : Nat} (h : civil n k j) : daysY k ≤ n ∧ n < daysY (k + 1) := by
  obtain ⟨h1, h2, h3, h4⟩ := h
  have h5 := daysM_range (1970 + (k : Int)) j (by omega)
  have h6 := daysM_mono (1970 + (k : Int)) (j := j + 1) (k := 12) (by omega) (by omega)
  rw [daysM_year] at h6
  simp only [daysY]
  omega
theorem civil_uniq {n : Int} {k j k' j' : Nat} (h : civil n k j) (h' : civil n k' j') : k = k' ∧ j = j' := by
  have a := civil_year h
  have b := civil_year h'
  have e : k = k' := by
    rcases Nat.lt_trichotomy k k' with hl | hl | hl
    · have := daysY_mono (j := k + 1) (k := k') hl; omega
    · exact hl
    · have := daysY_mono (j := k' + 1) (k := k) hl; omega
  subst e
  refine ⟨rfl, ?_⟩
  obtain ⟨h1, h2, h3, h4⟩ := h
  obtain ⟨g1, g2, g3, g4⟩ := h'
  rcases Nat.lt_trichotomy j j' with hl | hl | hl
  · have := daysM_mono (1970 + (k : Int)) (j := j + 1) (k := j') hl (by omega); omega
  · exact hl
  · have := daysM_mono (1970 + (k : Int)) (j := j' + 1) (k := j) hl (by omega); omega
theorem showDate_at {a : Int} {k j : Nat} (h0 : 0 ≤ a) (h1 : a ≤ 2000000000) (h : civil (a / 86400) k j) : mShowDate a = showT a (1970 + (k : Int)) (j : Int) (a / 86400 - daysY k - daysM (1970 + (k : Int)) j + 1) := by
  have hx : 0 ≤ a ∧ a ≤ 2000000000 ∧ ∃ p : Nat × Nat, civil (a / 86400) p.1 p.2 := ⟨h0, h1, (k, j), h⟩
  unfold mShowDate
  rw [dif_pos hx]
  obtain ⟨e1, e2⟩ := civil_uniq (Classical.choose_spec hx.2.2) h
  rw [e1, e2]
theorem daysY_67 : daysY 64 = 23376 := by decide +kernel
theorem civil_ex {n : Int} (h0 : 0 ≤ n) (h1 : n < 23376) : ∃ k j, civil n k j ∧ k < 64 := by
  have yr : ∀ k : Nat, n < daysY k → ∃ i, i < k ∧ daysY i ≤ n ∧ n < daysY (i + 1) := fun k => by
    induction k with
    | zero => intro h; simp [daysY] at h; omega
    | succ k ih =>
      intro h
      by_cases hk : n < daysY k
      · obtain ⟨i, hi, h2⟩ := ih hk
        exact ⟨i, by omega, h2⟩
      · exact ⟨k, by omega, by omega, h⟩
  obtain ⟨k, hk, h2, h3⟩ := yr 64 (by rw [daysY_67]; exact h1)
  have mo : ∀ j : Nat, n < daysY k + daysM (1970 + (k : Int)) j → ∃ i, i < j ∧ daysY k + daysM (1970 + (k : Int)) i ≤ n ∧ n < daysY k + daysM (1970 + (k : Int)) (i + 1) := fun j => by
    induction j with
    | zero => intro h; simp [daysM] at h; omega
    | succ j ih =>
      intro h
      by_cases hj : n < daysY k + daysM (1970 + (k : Int)) j
      · obtain ⟨i, hi, h4⟩ := ih hj
        exact ⟨i, by omega, h4⟩
      · exact ⟨j, by omega, by omega, h⟩
  obtain ⟨j, hj, h4, h5⟩ := mo 12 (by rw [daysM_year]; simp only [daysY] at h3; omega)
  exact ⟨k, j, ⟨by omega, hj, h4, h5⟩, hk⟩
end Go.Ev
end
