/- A small verified machine for the operations of the given program, and plain laws of what its functions compute; without conditions of its own. Part 5. -/
import Derived.Test.YtlkhfjhnpedabaaGreatDoorG2
import Derived.Test.YtlkhfjhnpedabaaGreatDoorG3
import Derived.Lib.AppendIntMem
import Derived.Lib.LaidTab
import Derived.Stop.LaidErr
import Derived.Lib.IndexBytes
import Derived.Lib.IndexLaws
import Derived.DataReads
import Derived.Lib.Join
import Derived.Lib.SlTrimSet
import Derived.Laws.IdiomStrings
import Derived.Deep.LoopGhost
import Derived.Tactics
import Derived.Tactics2
import Derived.WalkKit
import Derived.RowKit3
import Derived.WideLaws
import Derived.OwnWalk
import Derived.Laws.Slices
import Derived.Laws.Rows
import Derived.Laws.Cells
import Derived.Laws.BytesString
import Derived.Lib.ConvBytes
import Derived.Test.YtlkhfjhnpedabaaGreatDoorShelf
import Derived.Shelf.Strings.SlTrimAscii
set_option linter.unusedVariables false
set_option linter.unusedSimpArgs false
section
/- Library functions: from a call's law to a contract of the small machine. -/
set_option linter.unusedVariables false
namespace Go.Ev
open Go.RowKit
theorem tab_below {P : Program} {w W : World} {name : String} {k : IntKind} {zs : List Int} (h : Lib.TabIs P w name k zs) (hb : Below w.heap.size w W) : Lib.TabIs P W name k zs := by
  unfold Lib.TabIs World.var? at *
  cases hg : P.globalNamed name with
  | none => simp [hg] at h
  | some g =>
    simp only [hg, Option.bind_some] at h ⊢
    have hlt : g < w.heap.size := by
      rcases Nat.lt_or_ge g w.heap.size with h' | h'
      · exact h'
      · rw [Array.getElem?_eq_none h'] at h; simp at h
    rw [hb.block g hlt]
    exact h
/-- The function is there, and has a body. -/
def FnIs (P : Program) (f : FuncId) : Prop := ∃ fn, P.funcs[f]? = some fn ∧ (fn.name == "runtime.NumGoroutine") = false ∧ fn.body.isNone = false
theorem args_v {S : Nat → Prop} {W : World} {t : L} {ps : List PT} {x : pts (.v false .ro [t] :: ps)} {vs : List Value} (h : argsR S W (.v false .ro [t] :: ps) x vs) :
    ∃ v vs', vs = v :: vs' ∧ repL (roRow W S) t [(0, 0)] (hd (phd x)) v ∧ argsR S W ps (ptl x) vs' := by
  simp only [argsR, argR] at h
  obtain ⟨v, vs', rfl, ⟨cs, hc, hs⟩, h2⟩ := h
  obtain ⟨u, cs', rfl, hu, hn⟩ := repLs_cons.1 hc
  simp only [repLs] at hn
  subst hn
  simp only [slotV, Bool.false_eq_true, if_false] at hs
  obtain rfl : u = v := by simpa using hs
  exact ⟨u, vs', rfl, hu, h2⟩
theorem args_e {S : Nat → Prop} {W : World} {x : pts []} {vs : List Value} (h : argsR S W [] x vs) : vs = [] := h
theorem arr_of {vals : Array Value} {l : List Value} (h : vals.toList = l) : vals = l.toArray := by rw [← h]
/-- A contract, from a call's law. -/
theorem ct_lib {P : Program} {c : Ct} {w : World} (hf : FnIs P c.f)
    (h : ∀ (vals : Array Value) (x : pts c.ps) (S : Nat → Prop), (∀ b, S b → b < w.heap.size) → argsR S w c.ps x vals.toList → c.pre x →
      Calls P c.f vals w fun e w' => ∃ vs v, e = .returned v ∧ Below w.heap.size w w' ∧ retV vs v ∧ ∀ S', resR S' (fun _ => none) w' c.shared c.rs (c.F x) 0 vs) : CtAt P c w :=
  fun vals x S hS ha hp => ⟨hf, (h vals x S hS ha hp).mono fun e w' ⟨vs, v, he, hb, hv, hr⟩ => ⟨vs, v, fun _ => none, he, hb, hv, fun b hb => absurd rfl hb, hr _⟩⟩
theorem res_str {S : Nat → Prop} {col : Nat → Option Nat} {W : World} (x : ByteArray) : resR S col W false [(false, [.str])] (x : caps [[L.str]]) 0 [.string x] := by
  simp only [resR]
  exact ⟨_, _, [.string x], rfl, by simp only [outR]; exact ⟨_, _, rfl, rfl, rfl⟩, rfl, rfl⟩
theorem res_int {S : Nat → Prop} {col : Nat → Option Nat} {W : World} {k : IntKind} (x : Int) : resR S col W false [(false, [.int k])] (x : caps [[L.int k]]) 0 [.int k x] := by
  simp only [resR]
  exact ⟨_, _, [.int k x], rfl, by simp only [outR]; exact ⟨_, _, rfl, rfl, rfl⟩, rfl, rfl⟩
/-! ### strconv.Itoa -/
def itoaCt (f : FuncId) : Ct := { f, ps := [.v false .ro [.int .i64]], rs := [(false, [.str])], shared := false, pre := fun (x : Int) => pItoa x, F := fun (x : Int) => mItoa x }
theorem itoa_ct {P : Program} {f : FuncId} {w : World} (hf : FnIs P f)
    (hI : ∀ n : Int, -9223372036854775808 ≤ n → n ≤ 9223372036854775807 → Calls P f #[.int .i64 n] w fun e w' => e = .returned (.string ⟨(Lib.itoa n).toArray⟩) ∧ ∃ k os, w' = Sort.grow (w.drewN k) os) : CtAt P (itoaCt f) w := by
  refine ct_lib hf fun vals x S hS ha hp => ?_
  obtain ⟨v, vs', hv, h1, h2⟩ := args_v ha
  have h2 := args_e h2
  subst h2
  have h1 : v = .int .i64 x := h1
  subst h1
  rw [arr_of hv]
  refine (hI x hp.1 hp.2).mono fun e w' ⟨he, k, os, hw⟩ => ?_
  refine ⟨[.string (mItoa x)], _, he, ?_, Or.inl rfl, fun S' => res_str _⟩
  rw [hw]
  exact Lib.below_grow _ w (Nat.le_refl _) k os
end Go.Ev
end

section
/- Laws of the plain library: the law of TagOf. -/
set_option linter.unusedVariables false
namespace Go.Ev
def s_laws_FnExactTagOf (a0 : Int) (Q : (Bool → Prop)) : Prop :=
  pTagOf a0 ∧
  pTagOf a0 ∧
  ((mTagOf a0) ≠ (mTagOf a0) →
    (Q false)) ∧
  (¬ ((mTagOf a0) ≠ (mTagOf a0)) →
    (Q true))
def p_FnExactTagOf (a0 : Int) : Prop := wd a0
theorem in64_wd {n : Int} (h : wd n) : in64 n := by
  have h : (Lit.int .i64 n).wf = true := h
  simp [Lit.wf, IntKind.min, IntKind.max, IntKind.bits, IntKind.signed] at h
  constructor <;> omega
theorem laws_FnExactTagOf_ok (a0 : Int) (h : p_FnExactTagOf a0) : s_laws_FnExactTagOf a0 (fun r => r = true) :=
  ⟨in64_wd h, in64_wd h, fun hne => absurd rfl hne, fun _ => rfl⟩
end Go.Ev
end

section
/- Laws of the plain library: the laws' functions of the doors. -/
set_option linter.unusedVariables false
namespace Go.Ev
def p_FnExactOriginOk (a0 : List Rsc) : Prop := wd a0
theorem laws_FnExactOriginOk_ok (a0 : List Rsc) (h : p_FnExactOriginOk a0) : s_laws_FnExactOriginOk a0 (fun r => r = true) := by
  refine ⟨⟨h, by omega, by simp [capI]⟩, fun _ => rfl, fun hs => ?_⟩
  have hm : md a0 := szF_md hs (by omega) (by omega)
  exact ⟨hm, hm, hm, hm, fun hne => absurd rfl hne, fun _ => ⟨hm, h, fun hne => absurd (eqF_iff.2 rfl) hne, fun _ => rfl⟩⟩
def p_FnExactShardOk (a0 : Shd) : Prop := wd a0
theorem laws_FnExactShardOk_ok (a0 : Shd) (h : p_FnExactShardOk a0) : s_laws_FnExactShardOk a0 (fun r => r = true) := by
  refine ⟨⟨h, by omega, by simp [capI]⟩, fun _ => rfl, fun hs => ?_⟩
  have hm : md a0 := szF_md hs (by omega) (by omega)
  exact ⟨hm, hm, hm, hm, fun hne => absurd rfl hne, fun _ => ⟨hm, h, fun hne => absurd (eqF_iff.2 rfl) hne, fun _ => rfl⟩⟩
def p_FnExactFilled (a0 : Shd) : Prop := wd a0
theorem laws_FnExactFilled_ok (a0 : Shd) (h : p_FnExactFilled a0) : s_laws_FnExactFilled a0 (fun r => r = true) := by
  refine ⟨⟨h, by omega, by simp [capI]⟩, fun _ => rfl, fun hs => ?_⟩
  have hm : md a0 := szF_md hs (by omega) (by omega)
  exact ⟨hm, hm, hm, hm, fun hne => absurd rfl hne, fun _ => ⟨hm, h, fun hne => absurd (eqF_iff.2 rfl) hne, fun _ => rfl⟩⟩
def p_FnExactOnlyStored (a0 : Req) : Prop := wd a0
theorem laws_FnExactOnlyStored_ok (a0 : Req) (h : p_FnExactOnlyStored a0) : s_laws_FnExactOnlyStored a0 (fun r => r = true) := by
  refine ⟨⟨h, by omega, by simp [capI]⟩, fun _ => rfl, fun hs => ?_⟩
  have hm : md a0 := szF_md hs (by omega) (by omega)
  exact ⟨hm, hm, hm, hm, fun hne => absurd rfl hne, fun _ => ⟨hm, h, fun hne => absurd (eqF_iff.2 rfl) hne, fun _ => rfl⟩⟩
theorem szF_le {α : Type} [Cz α] (x : α) {k : Int} (h0 : 0 ≤ k) : szF x k ≤ k := by
  unfold szF leftI
  split <;> omega
theorem pSz_next {α β : Type} [Cz α] [Cz β] [Wd β] {x : α} {y : β} {k : Int} (h : ¬ szF x k < 0) (h0 : 0 ≤ k) (h1 : k ≤ 1048576) (hy : wd y) : pSz y (szF x k) :=
  ⟨hy, by omega, by have := szF_le x h0; simp only [capI]; omega⟩
theorem md_req {q : Req} (h : md q) : md q.2.2.1 := by
  unfold md at h ⊢; simp only [cz_pair] at h; omega
theorem md_rsp {r : Rsp} (h : md r) : md r.2.1 := by
  unfold md at h ⊢; simp only [cz_pair] at h; omega
def p_FnExactVaryFits (a0 : Req) (a1 : Rsp) (a2 : List Fld) : Prop := wd a0 ∧ wd a1 ∧ wd a2
theorem laws_FnExactVaryFits_ok (a0 : Req) (a1 : Rsp) (a2 : List Fld) (h : p_FnExactVaryFits a0 a1 a2) : s_laws_FnExactVaryFits a0 a1 a2 (fun r => r = true) := by
  obtain ⟨w0, w1, w2⟩ := h
  refine ⟨⟨w0, by omega, by simp [capI]⟩, fun _ => rfl, fun hs0 => ⟨pSz_next hs0 (by omega) (by omega) w1, fun _ => rfl, fun hs1 => ?_⟩⟩
  have k0 := szF_le a0 (k := 1048576) (by omega)
  have m0 : md a0 := szF_md hs0 (by omega) (by omega)
  have m1 : md a1 := szF_md hs1 (by omega) (by omega)
  have k1 := szF_le a1 (k := szF a0 1048576) (by omega)
  refine ⟨pSz_next hs1 (by omega) (by omega) w2, fun _ => rfl, fun hs2 => ?_⟩
  have m2 : md a2 := szF_md hs2 (by omega) (by omega)
  refine ⟨m0, m1, m2, ⟨md_req m0, md_rsp m1⟩, m0, m1, m2, ⟨md_req m0, md_rsp m1⟩, fun hne => absurd rfl hne, fun _ => ⟨m0, w0, fun hne => absurd (eqF_iff.2 rfl) hne, fun _ => ⟨m1, w1, fun hne => absurd (eqF_iff.2 rfl) hne, fun _ => ⟨m2, w2, fun hne => absurd (eqF_iff.2 rfl) hne, fun _ => rfl⟩⟩⟩⟩
def p_FnExactMayShare (a0 : Req) (a1 : Flt) (a2 : Int) : Prop := wd a0 ∧ wd a1 ∧ wd a2
theorem laws_FnExactMayShare_ok (a0 : Req) (a1 : Flt) (a2 : Int) (h : p_FnExactMayShare a0 a1 a2) : s_laws_FnExactMayShare a0 a1 a2 (fun r => r = true) := by
  obtain ⟨w0, w1, w2⟩ := h
  refine ⟨⟨w0, by omega, by simp [capI]⟩, fun _ => rfl, fun hs0 => ⟨pSz_next hs0 (by omega) (by omega) w1, fun _ => rfl, fun hs1 => ?_⟩⟩
  have k0 := szF_le a0 (k := 1048576) (by omega)
  have m0 : md a0 := szF_md hs0 (by omega) (by omega)
  have m1 : md a1 := szF_md hs1 (by omega) (by omega)
  exact ⟨m0, m1, ⟨m0, m1⟩, m0, m1, ⟨m0, m1⟩, fun hne => absurd rfl hne, fun _ => ⟨m0, w0, fun hne => absurd (eqF_iff.2 rfl) hne, fun _ => ⟨m1, w1, fun hne => absurd (eqF_iff.2 rfl) hne, fun _ => rfl⟩⟩⟩
def p_FnExactStorable (a0 : Req) (a1 : Rsp) : Prop := wd a0 ∧ wd a1
theorem laws_FnExactStorable_ok (a0 : Req) (a1 : Rsp) (h : p_FnExactStorable a0 a1) : s_laws_FnExactStorable a0 a1 (fun r => r = true) := by
  obtain ⟨w0, w1⟩ := h
  refine ⟨⟨w0, by omega, by simp [capI]⟩, fun _ => rfl, fun hs0 => ⟨pSz_next hs0 (by omega) (by omega) w1, fun _ => rfl, fun hs1 => ?_⟩⟩
  have k0 := szF_le a0 (k := 1048576) (by omega)
  have m0 : md a0 := szF_md hs0 (by omega) (by omega)
  have m1 : md a1 := szF_md hs1 (by omega) (by omega)
  exact ⟨m0, m1, ⟨m0, m1⟩, m0, m1, ⟨m0, m1⟩, fun hne => absurd rfl hne, fun _ => ⟨m0, w0, fun hne => absurd (eqF_iff.2 rfl) hne, fun _ => ⟨m1, w1, fun hne => absurd (eqF_iff.2 rfl) hne, fun _ => rfl⟩⟩⟩
end Go.Ev
end

section
/- Laws of the plain library: more of the laws' functions. -/
set_option linter.unusedVariables false
namespace Go.Ev
def p_FnExactStoredOk (a0 : Sto) : Prop := wd a0
theorem laws_FnExactStoredOk_ok (a0 : Sto) (h : p_FnExactStoredOk a0) : s_laws_FnExactStoredOk a0 (fun r => r = true) := by
  refine ⟨⟨h, by omega, by simp [capI]⟩, fun _ => rfl, fun hs => ?_⟩
  have hm : md a0 := szF_md hs (by omega) (by omega)
  exact ⟨hm, hm, hm, hm, fun hne => absurd rfl hne, fun _ => ⟨hm, h, fun hne => absurd (eqF_iff.2 rfl) hne, fun _ => rfl⟩⟩
def p_FnExactNormal (a0 : S) : Prop := wd a0
theorem laws_FnExactNormal_ok (a0 : S) (h : p_FnExactNormal a0) : s_laws_FnExactNormal a0 (fun r => r = true) := by
  refine ⟨fun _ => rfl, fun hs => ?_⟩
  have hp : pNormal a0 := by unfold pNormal; omega
  exact ⟨hp, hp, fun hne => absurd rfl hne, fun _ => rfl⟩
def p_FnExactVersionIn (a0 : Rsp) : Prop := wd a0
theorem laws_FnExactVersionIn_ok (a0 : Rsp) (h : p_FnExactVersionIn a0) : s_laws_FnExactVersionIn a0 (fun r => r = true) := by
  refine ⟨⟨h, by omega, by simp [capI]⟩, fun _ => rfl, fun hs => ?_⟩
  have hm : md a0 := szF_md hs (by omega) (by omega)
  have hv : pVersionIn a0 := md_rsp hm
  exact ⟨hm, hv, hm, hv, fun hne => absurd rfl hne, fun _ => ⟨hm, h, fun hne => absurd (eqF_iff.2 rfl) hne, fun _ => rfl⟩⟩
end Go.Ev
end

section
/- Laws of the plain library: caches; what is found in a shard. -/
set_option linter.unusedVariables false
namespace Go.Ev
theorem fnv_loop (a0 : S) (h : pFnv a0) : s_spec_Fnv a0 (fun r => r = mFnv a0) := by
  unfold pFnv sm at h
  have hl := bs_len a0
  intro L hL
  refine loopI hL (fun y => ∃ i : Nat, i ≤ a0.size ∧ y.2 = (i : Int) ∧ y.1 = ((bs a0).take i).foldl fnvStep 2166136261) (fun y => a0.size + 1 - y.2.toNat) (fun y hI ih => ?_) (2166136261, 0) ⟨0, by omega, rfl, by simp⟩
  obtain ⟨k, i'⟩ := y
  obtain ⟨i, hi, hy, hk⟩ := hI
  simp only at hy hk ⊢
  subst hy hk
  refine ⟨fun hlt => ⟨by omega, hlt, by decide, ?_⟩, fun hge => ?_⟩
  · have hlt' : i < a0.size := by omega
    rw [wrapS (by omega), bt_nat a0 i hlt']
    refine ih _ ⟨i + 1, by omega, rfl, ?_⟩ (by simp only [Int.toNat_natCast]; omega)
    simp only
    rw [take_succ_app (by omega), List.foldl_append]
    rfl
  · have hie : i = a0.size := by omega
    subst hie
    unfold mFnv
    rw [List.take_of_length_le (by omega)]
theorem spec_Fnv_ok (a0 : S) (h : pFnv a0) : s_spec_Fnv a0 (fun r => r = mFnv a0) := fnv_loop a0 h
theorem impl_Fnv_ok (a0 : S) (h : pFnv a0) : s_impl_Fnv a0 (fun r => r = mFnv a0) := fnv_loop a0 h
theorem spec_ShardOf_ok (a0 : Cch) (a1 : S) (h : pShardOf a0 a1) : s_spec_ShardOf a0 a1 (fun r => r = mShardOf a0 a1) :=
  ⟨fun h0 => by unfold mShardOf; rw [if_pos h0], fun h0 => ⟨h, h0, by unfold mShardOf; rw [if_neg h0]⟩⟩
theorem impl_ShardOf_ok (a0 : Cch) (a1 : S) (h : pShardOf a0 a1) : s_impl_ShardOf a0 a1 (fun r => r = mShardOf a0 a1) := spec_ShardOf_ok a0 a1 h
theorem impl_CacheOk_1_ok (a0 : Slt) (a1 : Cch) (a2 : Int) (h : pCacheOk_1 a0 a1 a2) : s_impl_CacheOk_1 a0 a1 a2 (fun r => r = mCacheOk_1 a0 a1 a2) := ⟨h, rfl⟩
theorem slt_uri {l : List Slt} (h : md l) {x : Slt} (hx : x ∈ l) : sm x.1 := by
  have := cz_mem hx
  unfold md at h
  simp only [cz_pair] at this
  have e : cz x.1 = x.1.size := rfl
  unfold sm
  omega
theorem IndexFunc_CacheOk_1_ok (a0 : List Slt) (a1 : Cch × Int) (h : pIndexFunc_CacheOk_1 a0 a1) : s_IndexFunc_CacheOk_1 a0 a1 (fun r => r = mIndexFunc_CacheOk_1 a0 a1) :=
  idxS_ok (F := fun x => mCacheOk_1 x a1.1 a1.2) (by have := md_len' h; simp only [maxLen]; omega) (P := fun x => pCacheOk_1 x a1.1 a1.2) fun x hx => slt_uri h hx
theorem ContainsFunc_CacheOk_1_ok (a0 : List Slt) (a1 : Cch × Int) (h : pContainsFunc_CacheOk_1 a0 a1) : s_ContainsFunc_CacheOk_1 a0 a1 (fun r => r = mContainsFunc_CacheOk_1 a0 a1) := ⟨h, idxI_nonneg⟩

theorem cch_shard {c : Cch} (h : md c) {i : Nat} (hi : i < c.1.length) : md (rx c.1 (i : Int)) := by
  rw [rx_nat _ i hi]
  unfold md at h ⊢
  have := cz_mem (List.getElem_mem hi : c.1[i] ∈ c.1)
  rw [cz_pair] at h
  omega
theorem cch_gen {c : Cch} (h : md c) {i : Nat} (hi : i < c.2.length) : pUriOk (rx c.2 (i : Int)).1 := by
  rw [rx_nat _ i hi]
  unfold md at h
  have := cz_mem (List.getElem_mem hi : c.2[i] ∈ c.2)
  rw [cz_pair] at h this
  have e : cz c.2[i].1 = c.2[i].1.size := rfl
  unfold pUriOk sm
  omega
theorem shd_ring' {s : Shd} (h : md s) : md s.2.2.1 := by
  unfold md at h ⊢
  simp only [cz_pair] at h
  omega
open Classical in
theorem cacheOk_no {c : Cch} (h : ¬ cacheFine c) : false = mCacheOk c := by
  unfold mCacheOk
  rw [decide_eq_false h]
open Classical in
theorem cacheOk_yes {c : Cch} (h : cacheFine c) : true = mCacheOk c := by
  unfold mCacheOk
  rw [decide_eq_true h]
theorem prevI {i : Nat} (h0 : 0 < (i : Int)) (h1 : i ≤ 1048576) : IntKind.i64.wrap ((i : Int) - 1) = ((i - 1 : Nat) : Int) := by rw [wrap64 (by omega) (by omega)]; omega
theorem spec_CacheOk_ok (a0 : Cch) (h : pCacheOk a0) : s_spec_CacheOk a0 (fun r => r = mCacheOk a0) := by
  have hl1 : a0.1.length ≤ 1048576 := by have := cz_len a0.1; unfold pCacheOk md at h; rw [cz_pair] at h; omega
  have hl2 : a0.2.length ≤ 1048576 := by have := cz_len a0.2; unfold pCacheOk md at h; rw [cz_pair] at h; omega
  refine ⟨trivial, fun hn => cacheOk_no fun hc => hn hc.1, fun hin => ?_⟩
  have hin := Classical.not_not.1 hin
  intro L hL
  refine loopN hL a0.1.length (by omega) (fun i => ∀ j, j < i → shardAt a0 j) (fun i hi hI ih => ⟨fun hlt => ?_, fun hge => ?_⟩) (fun j hj => by omega)
  · have hlt' : i < a0.1.length := by omega
    have hms := cch_shard h hlt'
    refine ⟨by omega, hlt, hms, fun hno => cacheOk_no fun hc => hno (hc.2.1 i hlt').1, fun hok => ?_⟩
    have hok := Classical.not_not.1 hok
    have hring := md_len' (shd_ring' hms)
    intro L2 hL2
    refine loopN hL2 (rx a0.1 (i : Int)).2.2.1.length (by omega) (fun k => ∀ j, j < k → mShardOf a0 (rx (rx a0.1 (i : Int)).2.2.1 (j : Int)).1 = (i : Int)) (fun k hk hK ik => ⟨by omega, hlt, fun hkl => ?_, fun hkg => ?_⟩) (fun j hj => by omega)
    · have hkl' : k < (rx a0.1 (i : Int)).2.2.1.length := by omega
      refine ⟨by omega, hlt, by omega, hkl, slt_uri (shd_ring' hms) (rx_mem _ hkl'), fun hne => cacheOk_no fun hc => hne ((hc.2.1 i hlt').2 k hkl'), fun heq => ik hkl' fun j hj => ?_⟩
      by_cases e : j = k
      · subst e; exact Classical.not_not.1 heq
      · exact hK j (by omega)
    · refine ih hlt' fun j hj => ?_
      by_cases e : j = i
      · subst e; exact ⟨hok, fun k' hk' => hK k' (by omega)⟩
      · exact hI j (by omega)
  · intro L4 hL4
    refine loopN hL4 a0.2.length (by omega) (fun i => ∀ j, j < i → genAt a0.2 j) (fun k hk hK ik => ⟨fun hkl => ?_, fun hkg => cacheOk_yes ⟨hin, fun j hj => hI j (by omega), fun j hj => hK j (by omega)⟩⟩) (fun j hj => by omega)
    have hkl' : k < a0.2.length := by omega
    have next : genAt a0.2 k → L4 (IntKind.i64.wrap ((k : Int) + 1)) := fun hg => ik hkl' fun j hj => by
      by_cases e : j = k
      · subst e; exact hg
      · exact hK j (by omega)
    refine ⟨by omega, hkl, cch_gen h hkl', fun hno => cacheOk_no fun hc => hno (hc.2.2 k hkl').1, fun h1 => ⟨by omega, hkl, trivial, fun hno => cacheOk_no fun hc => hno (hc.2.2 k hkl').2.1, fun h2 => ⟨fun h0 => ?_, fun h0 => next ⟨Classical.not_not.1 h1, Classical.not_not.1 h2, .inl (by omega)⟩⟩⟩⟩
    rw [prevI h0 (by omega)]
    refine ⟨by omega, hkl, by omega, by omega, fun hno => cacheOk_no fun hc => ?_, fun hyes => next ⟨Classical.not_not.1 h1, Classical.not_not.1 h2, .inr ?_⟩⟩
    · rcases (hc.2.2 k hkl').2.2 with h3 | h3
      · omega
      · exact (strLt_not _ _).1 (hno.imp (fun h => h) fun h => h.symm) h3
    · exact Classical.not_not.1 fun h3 => hyes (((strLt_not _ _).2 h3).imp (fun h => h) fun h => h.symm)
theorem impl_CacheOk_ok (a0 : Cch) (h : pCacheOk a0) : s_impl_CacheOk a0 (fun r => r = mCacheOk a0) := by
  have hl1 : a0.1.length ≤ 1048576 := by have := cz_len a0.1; unfold pCacheOk md at h; rw [cz_pair] at h; omega
  have hl2 : a0.2.length ≤ 1048576 := by have := cz_len a0.2; unfold pCacheOk md at h; rw [cz_pair] at h; omega
  refine ⟨trivial, fun hn => cacheOk_no fun hc => hn hc.1, fun hin => ?_⟩
  have hin := Classical.not_not.1 hin
  intro L hL
  refine loopN hL a0.1.length (by omega) (fun i => ∀ j, j < i → shardAt a0 j) (fun i hi hI ih => ⟨fun hlt => ?_, fun hge => ?_⟩) (fun j hj => by omega)
  · have hlt' : i < a0.1.length := by omega
    have hms := cch_shard h hlt'
    refine ⟨by omega, hlt, hms, fun hno => cacheOk_no fun hc => hno (hc.2.1 i hlt').1, fun hok => ⟨shd_ring' hms, fun hany => cacheOk_no fun hc => ?_, fun hall => ih hlt' fun j hj => ?_⟩⟩
    · obtain ⟨x, hx, hp⟩ := List.any_eq_true.1 hany
      obtain ⟨k, hk, rfl⟩ := List.mem_iff_getElem.1 hx
      have := (hc.2.1 i hlt').2 k hk
      rw [rx_get _ hk] at this
      unfold mCacheOk_1 at hp
      simp only [decide_eq_true_eq] at hp
      exact hp this
    · by_cases e : j = i
      · subst e
        refine ⟨Classical.not_not.1 hok, fun k hk => ?_⟩
        rw [rx_get _ hk]
        apply Classical.byContradiction
        intro hne
        exact hall (List.any_eq_true.2 ⟨_, List.getElem_mem hk, by unfold mCacheOk_1; simp only [decide_eq_true_eq]; exact hne⟩)
      · exact hI j (by omega)
  · intro L4 hL4
    refine loopN hL4 a0.2.length (by omega) (fun i => ∀ j, j < i → genAt a0.2 j) (fun k hk hK ik => ⟨fun hkl => ?_, fun hkg => cacheOk_yes ⟨hin, fun j hj => hI j (by omega), fun j hj => hK j (by omega)⟩⟩) (fun j hj => by omega)
    have hkl' : k < a0.2.length := by omega
    have next : genAt a0.2 k → L4 (IntKind.i64.wrap ((k : Int) + 1)) := fun hg => ik hkl' fun j hj => by
      by_cases e : j = k
      · subst e; exact hg
      · exact hK j (by omega)
    refine ⟨by omega, hkl, cch_gen h hkl', fun hno => cacheOk_no fun hc => hno (hc.2.2 k hkl').1, fun h1 => ⟨trivial, fun hno => cacheOk_no fun hc => hno (hc.2.2 k hkl').2.1, fun h2 => ⟨fun h0 => ?_, fun h0 => next ⟨Classical.not_not.1 h1, Classical.not_not.1 h2, .inl (by omega)⟩⟩⟩⟩
    rw [prevI h0 (by omega)]
    refine ⟨by omega, by omega, fun hno => cacheOk_no fun hc => ?_, fun hyes => next ⟨Classical.not_not.1 h1, Classical.not_not.1 h2, .inr (Classical.not_not.1 hyes)⟩⟩
    rcases (hc.2.2 k hkl').2.2 with h3 | h3
    · omega
    · exact hno h3

/-! ### What is found -/
theorem findTo_range (s : Shd) (q : Req) : ∀ i : Nat, -1 ≤ findTo s q i ∧ findTo s q i < (i : Int)
  | 0 => by simp [findTo]
  | i + 1 => by
    have := findTo_range s q i
    simp only [findTo]
    split <;> omega
theorem slt_vary {s : Shd} {q : Req} (h : pShardFind s q) {x : Slt} (hx : x ∈ s.2.2.1) : pVaryFits q (x.2.2.1, x.2.2.2.1, x.2.2.2.2.1) x.2.1 := by
  refine ⟨md_req h.2, ?_⟩
  have h1 := md_mem (show cz s.2.2.1 ≤ 1048576 from shd_ring' h.1) hx
  simp only [cz_pair] at h1
  show cz x.2.2.2.1 ≤ 1048576
  omega
theorem spec_ShardFind_ok (a0 : Shd) (a1 : Req) (h : pShardFind a0 a1) : s_spec_ShardFind a0 a1 (fun r => r = mShardFind a0 a1) := by
  have hlen := md_len' (shd_ring' h.1)
  refine ⟨h.1, fun hno => by unfold mShardFind; rw [if_pos (.inr hno)], fun hok => ⟨fun hm => by unfold mShardFind; rw [if_pos (.inl hm)], fun hm => ?_⟩⟩
  have e : mShardFind a0 a1 = findTo a0 a1 a0.2.2.1.length := by unfold mShardFind; rw [if_neg (fun hh => hh.elim hm hok)]
  rw [e]
  intro L hL
  refine loopI hL (fun y => ∃ i : Nat, i ≤ a0.2.2.1.length ∧ y.2 = (i : Int) ∧ y.1 = findTo a0 a1 i) (fun y => a0.2.2.1.length + 1 - y.2.toNat) (fun y hI ih => ?_) (-1, 0) ⟨0, by omega, rfl, rfl⟩
  obtain ⟨k, i'⟩ := y
  obtain ⟨i, hi, hy, hk⟩ := hI
  simp only at hy hk ⊢
  subst hy hk
  have hr := findTo_range a0 a1 i
  refine ⟨fun hlt => ?_, fun hge => by rw [show i = a0.2.2.1.length by omega]⟩
  have hlt' : i < a0.2.2.1.length := by omega
  rw [wrapS (by omega)]
  have next : ∀ k, k = findTo a0 a1 (i + 1) → L (k, ((i + 1 : Nat) : Int)) := fun k hk => ih _ ⟨i + 1, by omega, rfl, hk⟩ (by simp only [Int.toNat_natCast]; omega)
  refine ⟨by omega, hlt, fun h1 => ⟨slt_vary h (rx_mem _ hlt'), fun h2 => ⟨fun h3 => next _ ?_, fun h3 => ⟨by omega, by omega, fun h4 => next _ ?_, fun h4 => next _ ?_⟩⟩, fun h2 => next _ ?_⟩, fun h1 => next _ ?_⟩
  · simp only [findTo]; rw [if_pos ⟨h1, h2, .inl h3⟩]
  · simp only [findTo]; rw [if_pos ⟨h1, h2, .inr h4⟩]
  · simp only [findTo]; rw [if_neg (fun hh => hh.2.2.elim h3 h4)]
  · simp only [findTo]; rw [if_neg (fun hh => h2 hh.2.1)]
  · simp only [findTo]; rw [if_neg (fun hh => h1 hh.1)]
theorem impl_ShardFind_ok (a0 : Shd) (a1 : Req) (h : pShardFind a0 a1) : s_impl_ShardFind a0 a1 (fun r => r = mShardFind a0 a1) := by
  have hlen := md_len' (shd_ring' h.1)
  refine ⟨fun hm => by unfold mShardFind; rw [if_pos (.inl hm)], fun hm => ⟨h.1, fun hno => by unfold mShardFind; rw [if_pos (.inr hno)], fun hok => ?_⟩⟩
  have e : mShardFind a0 a1 = findTo a0 a1 a0.2.2.1.length := by unfold mShardFind; rw [if_neg (fun hh => hh.elim hm hok)]
  rw [e]
  intro L hL
  refine loopI hL (fun y => ∃ i : Nat, i ≤ a0.2.2.1.length ∧ y.2 = (i : Int) ∧ y.1 = findTo a0 a1 i) (fun y => a0.2.2.1.length + 1 - y.2.toNat) (fun y hI ih => ?_) (-1, 0) ⟨0, by omega, rfl, rfl⟩
  obtain ⟨k, i'⟩ := y
  obtain ⟨i, hi, hy, hk⟩ := hI
  simp only at hy hk ⊢
  subst hy hk
  have hr := findTo_range a0 a1 i
  refine ⟨fun hlt => ?_, fun hge => by rw [show i = a0.2.2.1.length by omega]⟩
  have hlt' : i < a0.2.2.1.length := by omega
  rw [wrapS (by omega)]
  have next : ∀ k, k = findTo a0 a1 (i + 1) → L (k, ((i + 1 : Nat) : Int)) := fun k hk => ih _ ⟨i + 1, by omega, rfl, hk⟩ (by simp only [Int.toNat_natCast]; omega)
  refine ⟨by omega, hlt, fun h1 => next _ ?_, fun h1 => ⟨slt_vary h (rx_mem _ hlt'), fun h2 => next _ ?_, fun h2 => ⟨fun h3 => next _ ?_, fun h3 => ⟨by omega, by omega, fun h4 => next _ ?_, fun h4 => next _ ?_⟩⟩⟩⟩
  · simp only [findTo]; rw [if_neg (fun hh => h1 hh.1)]
  · simp only [findTo]; rw [if_neg (fun hh => h2 hh.2.1)]
  · simp only [findTo]; rw [if_pos ⟨Classical.not_not.1 h1, Classical.not_not.1 h2, .inl h3⟩]
  · simp only [findTo]; rw [if_pos ⟨Classical.not_not.1 h1, Classical.not_not.1 h2, .inr h4⟩]
  · simp only [findTo]; rw [if_neg (fun hh => hh.2.2.elim h3 h4)]

def p_FnExactCacheOk (a0 : Cch) : Prop := wd a0
theorem laws_FnExactCacheOk_ok (a0 : Cch) (h : p_FnExactCacheOk a0) : s_laws_FnExactCacheOk a0 (fun r => r = true) := by
  refine ⟨⟨h, by omega, by simp [capI]⟩, fun _ => rfl, fun hs => ?_⟩
  have hm : md a0 := szF_md hs (by omega) (by omega)
  exact ⟨hm, hm, hm, hm, fun hne => absurd rfl hne, fun _ => ⟨hm, h, fun hne => absurd (eqF_iff.2 rfl) hne, fun _ => rfl⟩⟩
def p_FnExactShardFind (a0 : Shd) (a1 : Req) : Prop := wd a0 ∧ wd a1
theorem laws_FnExactShardFind_ok (a0 : Shd) (a1 : Req) (h : p_FnExactShardFind a0 a1) : s_laws_FnExactShardFind a0 a1 (fun r => r = true) := by
  obtain ⟨w0, w1⟩ := h
  refine ⟨⟨w0, by omega, by simp [capI]⟩, fun _ => rfl, fun hs0 => ⟨pSz_next hs0 (by omega) (by omega) w1, fun _ => rfl, fun hs1 => ?_⟩⟩
  have k0 := szF_le a0 (k := 1048576) (by omega)
  have m0 : md a0 := szF_md hs0 (by omega) (by omega)
  have m1 : md a1 := szF_md hs1 (by omega) (by omega)
  have hp : pShardFind (toF a0) (toF a1) := ⟨m0, m1⟩
  exact ⟨m0, m1, hp, m0, m1, hp, fun hne => absurd rfl hne, fun _ => ⟨m0, w0, fun hne => absurd (eqF_iff.2 rfl) hne, fun _ => ⟨m1, w1, fun hne => absurd (eqF_iff.2 rfl) hne, fun _ => rfl⟩⟩⟩
end Go.Ev
end

section
/- Laws of the plain library, fifth part: lists in texts. -/
set_option linter.unusedVariables false
namespace Go.Ev

theorem drop_cons' {α : Type} {l : List α} {i : Nat} (h : i < l.length) : l.drop i = l[i] :: l.drop (i + 1) := (List.getElem_cons_drop (h := h)).symm
theorem seg_succ {α : Type} {l : List α} {f i : Nat} (hf : f ≤ i) (h : i < l.length) : (l.take (i + 1)).drop f = (l.take i).drop f ++ [l[i]] := by
  rw [take_succ_app h, List.drop_append_of_le_length (by rw [List.length_take]; omega)]
theorem seg_all {α : Type} {l : List α} {f i : Nat} (hf : f ≤ i) (hi : i ≤ l.length) : (l.take i).drop f ++ l.drop i = l.drop f := by
  conv => rhs; rw [← List.take_append_drop i l]
  rw [List.drop_append_of_le_length (by rw [List.length_take]; omega)]
theorem commasL_nil (q : Bool) (i : Int) : commasL q i [] = [] := by cases q <;> rfl
theorem commasL_one (i : Int) (b : UInt8) : commasL true i [b] = [] := rfl
theorem commasL_in (i : Int) (b c : UInt8) (r : List UInt8) : commasL true i (b :: c :: r) = if b = 34 then commasL false (i + 1) (c :: r) else if b = 92 then commasL true (i + 2) r else commasL true (i + 1) (c :: r) := by rw [commasL]
theorem commasL_out (i : Int) (b : UInt8) (r : List UInt8) : commasL false i (b :: r) = if b = 34 then commasL true (i + 1) r else if b = 44 then i :: commasL false (i + 1) r else commasL false (i + 1) r := by rw [commasL]
/-- The parts, by the places of the commas. -/
def cutAt (l : List UInt8) : Nat → List Int → List (List UInt8)
  | f, [] => [l.drop f]
  | f, a :: az => (l.take a.toNat).drop f :: cutAt l (a.toNat + 1) az
def okC (n : Nat) : Nat → List Int → Prop
  | f, [] => f ≤ n
  | f, a :: az => (f : Int) ≤ a ∧ a < (n : Int) ∧ okC n (a.toNat + 1) az
theorem parts_cut (l : List UInt8) : ∀ (m : Nat) (q : Bool) (i f : Nat), i + m = l.length → f ≤ i →
    partsL q ((l.take i).drop f) (l.drop i) = cutAt l f (commasL q (i : Int) (l.drop i)) ∧ okC l.length f (commasL q (i : Int) (l.drop i)) := by
  intro m
  induction m using Nat.strongRecOn with
  | _ m ih =>
    intro q i f hi hf
    cases m with
    | zero =>
      have e : l.drop i = [] := List.drop_eq_nil_of_le (by omega)
      have e2 : l.take i = l := List.take_of_length_le (by omega)
      rw [e, partsL_nil, commasL_nil, e2]
      exact ⟨rfl, by show f ≤ l.length; omega⟩
    | succ m =>
      have hlt : i < l.length := by omega
      have hc := drop_cons' hlt
      have hs := seg_succ hf hlt
      have step := fun (q' : Bool) => ih m (by omega) q' (i + 1) f (by omega) (by omega)
      have hcast : ((i + 1 : Nat) : Int) = (i : Int) + 1 := by omega
      cases q with
      | false =>
        rw [hc, partsL_out, commasL_out, ← hs, ← hcast]
        split
        · exact step true
        · split
          · have h0 := ih m (by omega) false (i + 1) (i + 1) (by omega) (Nat.le_refl _)
            have e0 : (l.take (i + 1)).drop (i + 1) = [] := List.drop_eq_nil_of_le (by rw [List.length_take]; omega)
            rw [e0] at h0
            simp only [cutAt, okC, Int.toNat_natCast]
            exact ⟨by rw [h0.1], by omega, by omega, h0.2⟩
          · exact step false
      | true =>
        cases m with
        | zero =>
          have e : l.drop (i + 1) = [] := List.drop_eq_nil_of_le (by omega)
          have ha := seg_all hf (Nat.le_of_lt hlt)
          rw [hc, e] at ha
          rw [hc, e, partsL_one, commasL_one, ha]
          exact ⟨rfl, by show f ≤ l.length; omega⟩
        | succ m =>
          have hlt1 : i + 1 < l.length := by omega
          have hc1 := drop_cons' hlt1
          rw [hc, hc1, partsL_in, commasL_in, ← hc1, ← hs, ← hcast]
          split
          · exact step false
          · split
            · have h2 := ih m (by omega) true (i + 2) f (by omega) (by omega)
              have hs2 := seg_succ (f := f) (i := i + 1) (by omega) hlt1
              rw [hs, List.append_assoc] at hs2
              rw [show (l.take i).drop f ++ [l[i], l[i + 1]] = (l.take (i + 2)).drop f from hs2.symm, show (i : Int) + 2 = ((i + 2 : Nat) : Int) by omega]
              exact h2
            · exact step true
theorem trimmed_cons (p : List UInt8) (l : List (List UInt8)) : trimmed (p :: l) = if mTrim (ob p) ≠ lit [] then mTrim (ob p) :: trimmed l else trimmed l := by
  unfold trimmed
  rw [List.map_cons, List.filter_cons]
  split
  · next h => rw [if_pos (by simpa using h)]
  · next h => rw [if_neg (by simpa using h)]
theorem trimmed_nil : trimmed [] = [] := rfl
theorem ext_seg (s : S) (f a : Nat) : s.extract f a = ob (((bs s).take a).drop f) := by
  apply bs_inj
  rw [bs_extract, bs_ob, List.drop_take]
theorem byte_eq {s : S} {i : Nat} (h : i < s.size) (n : Nat) (hn : n < 256) : bt s (i : Int) = (n : Int) ↔ (bs s)[i]'(by rw [bs_len]; exact h) = UInt8.ofNat n := by
  rw [bt_nat s i h]
  constructor
  · intro e
    have e' : ((bs s)[i]'(by rw [bs_len]; exact h)).toNat = n := by omega
    rw [← e']; simp
  · intro e
    rw [e]
    simp
    omega
theorem commas_len : ∀ (q : Bool) (i : Int) (l : List UInt8), (commasL q i l).length ≤ l.length
  | q, i, [] => by rw [commasL_nil]; simp
  | true, i, [b] => by rw [commasL_one]; simp
  | true, i, b :: c :: r => by
    rw [commasL_in]
    have h1 := commas_len false (i + 1) (c :: r)
    have h2 := commas_len true (i + 2) r
    have h3 := commas_len true (i + 1) (c :: r)
    simp only [List.length_cons] at *
    split
    · omega
    · split <;> omega
  | false, i, b :: r => by
    rw [commasL_out]
    have h1 := commas_len true (i + 1) r
    have h2 := commas_len false (i + 1) r
    simp only [List.length_cons] at *
    split
    · omega
    · split
      · simp only [List.length_cons]; omega
      · omega

theorem impl_commas_ok (a0 : S) (h : pCommas a0) : s_impl_commas a0 (fun r => r = mCommas a0) := by
  unfold pCommas sm at h
  intro L hL
  have hl := bs_len a0
  refine loopI hL (fun y => ∃ i : Nat, y.2.2 = (i : Int) ∧ i ≤ a0.size + 1 ∧ y.1.length ≤ i ∧ (i ≤ a0.size → y.1 ++ commasL y.2.1 (i : Int) ((bs a0).drop i) = mCommas a0) ∧ (i = a0.size + 1 → y.1 = mCommas a0))
    (fun y => a0.size + 1 - y.2.2.toNat) (fun y hI ih => ?_) ([], false, 0) ⟨0, rfl, by omega, by simp, fun _ => rfl, fun h => by omega⟩
  obtain ⟨out, q, y3⟩ := y
  obtain ⟨i, hy, hi, hol, h1, h2⟩ := hI
  simp only at hy hol h1 h2 ⊢
  subst hy
  refine ⟨fun hlt => ?_, fun hge => ?_⟩
  · have hi2 : i < a0.size := by omega
    have hi3 : i < (bs a0).length := by omega
    have h1 := h1 (by omega)
    have hc := drop_cons' hi3
    have hw : IntKind.i64.wrap ((i : Int) + 1) = ((i + 1 : Nat) : Int) := wrapS (by omega)
    have hw2 : IntKind.i64.wrap (((i + 1 : Nat) : Int) + 1) = ((i + 2 : Nat) : Int) := by rw [wrapS (by omega)]
    have b34 : bt a0 (i : Int) = 34 ↔ _ := byte_eq hi2 34 (by omega)
    have b92 : bt a0 (i : Int) = 92 ↔ _ := byte_eq hi2 92 (by omega)
    have b44 : bt a0 (i : Int) = 44 ↔ _ := byte_eq hi2 44 (by omega)
    have next : ∀ (out' : List Int) (q' : Bool), out'.length ≤ i + 1 → out' ++ commasL q' ((i : Int) + 1) ((bs a0).drop (i + 1)) = mCommas a0 → L (out', q', ((i + 1 : Nat) : Int)) := fun out' q' hlen e =>
      ih _ ⟨i + 1, rfl, by omega, hlen, fun _ => by rw [← e]; congr 2, fun hh => by omega⟩ (by simp only [Int.toNat_natCast]; omega)
    rw [hw, hw2]
    rw [hc] at h1
    have hq34 : bt a0 (i : Int) = 34 → commasL q (i : Int) ((bs a0)[i] :: (bs a0).drop (i + 1)) = commasL (!q) ((i : Int) + 1) ((bs a0).drop (i + 1)) := fun e => by
      have e' := b34.1 e
      cases q with
      | false => rw [commasL_out, if_pos (by rw [e']; rfl)]; rfl
      | true =>
        cases hr : (bs a0).drop (i + 1) with
        | nil => rw [commasL_one, commasL_nil]
        | cons c r => rw [commasL_in, if_pos (by rw [e']; rfl)]; rfl
    have n34 : bt a0 (i : Int) ≠ 34 → ¬ (bs a0)[i] = 34 := fun e e' => e (b34.2 e')
    have n92 : bt a0 (i : Int) ≠ 92 → ¬ (bs a0)[i] = 92 := fun e e' => e (b92.2 e')
    have n44 : bt a0 (i : Int) ≠ 44 → ¬ (bs a0)[i] = 44 := fun e e' => e (b44.2 e')
    have plain_in : bt a0 (i : Int) ≠ 34 → bt a0 (i : Int) ≠ 92 → q = true → commasL q (i : Int) ((bs a0)[i] :: (bs a0).drop (i + 1)) = commasL q ((i : Int) + 1) ((bs a0).drop (i + 1)) := fun e1 e2 eq => by
      subst eq
      cases hr : (bs a0).drop (i + 1) with
      | nil => rw [commasL_one, commasL_nil]
      | cons c r => rw [commasL_in, if_neg (n34 e1), if_neg (n92 e2)]
    refine ⟨by omega, by omega, fun e34 => next _ _ (by omega) ?_, fun e34 => ⟨fun eq => ⟨by omega, by omega, fun e92 => ?_, fun e92 => ⟨fun nq => absurd eq nq, fun _ => next _ _ (by omega) ?_⟩⟩, fun nq => ⟨fun _ => ⟨by omega, by omega, fun e44 => ?_, fun e44 => next _ _ (by omega) ?_⟩, fun qq => absurd nq qq⟩⟩⟩
    · rw [← h1, hq34 e34]
      cases q <;> rfl
    · -- a byte behind a backslash is passed over
      have e' := b92.1 e92
      subst eq
      refine ih _ ⟨i + 2, rfl, by omega, by simp only; omega, fun hle => ?_, fun hle => ?_⟩ (by simp only [Int.toNat_natCast]; omega)
      · have hi4 : i + 1 < (bs a0).length := by omega
        rw [drop_cons' hi4, commasL_in, if_neg (n34 e34), if_pos (by rw [e']; rfl)] at h1
        rw [← h1]
        simp only
        congr 2
      · have : (bs a0).drop (i + 1) = [] := List.drop_eq_nil_of_le (by omega)
        rw [this, commasL_one] at h1
        simpa using h1
    · rw [← h1, plain_in e34 e92 eq]
    · have e' := b44.1 e44
      have hq : q = false := by simpa using nq
      subst hq
      rw [commasL_out, if_neg (n34 e34), if_pos (by rw [e']; rfl)] at h1
      refine ⟨by simp only [List.length_singleton]; omega, next _ _ (by simp only [List.length_append, List.length_singleton]; omega) ?_⟩
      rw [← h1]; simp
    · have hq : q = false := by simpa using nq
      subst hq
      rw [commasL_out, if_neg (n34 e34), if_neg (n44 e44)] at h1
      exact h1
  · have : i = a0.size ∨ i = a0.size + 1 := by omega
    rcases this with e | e
    · have h1 := h1 (by omega)
      have : (bs a0).drop i = [] := List.drop_eq_nil_of_le (by omega)
      rw [this, commasL_nil, List.append_nil] at h1
      exact h1
    · exact h2 e

theorem impl_SplitList_ok (a0 : S) (h : pSplitList a0) : s_impl_SplitList a0 (fun r => r = mSplitList a0) := by
  have h0 := h
  unfold pSplitList sm at h
  have hl := bs_len a0
  have hpc := parts_cut (bs a0) a0.size false 0 0 (by omega) (Nat.le_refl _)
  rw [List.drop_zero, hl] at hpc
  have hcl := commas_len false 0 (bs a0)
  have hC : mCommas a0 = commasL false (((0 : Nat) : Int)) (bs a0) := rfl
  have hM : mSplitList a0 = trimmed (cutAt (bs a0) 0 (mCommas a0)) := by
    unfold mSplitList
    rw [hC]
    exact congrArg trimmed hpc.1
  have hok : okC a0.size 0 (mCommas a0) := hpc.2
  have hclen : (mCommas a0).length ≤ a0.size := by rw [← hl]; exact hcl
  refine ⟨h0, by simp only [List.length_singleton]; omega, fun L hL => ?_⟩
  generalize mCommas a0 = C at hM hok hclen hL
  have hEl : (C ++ [(a0.size : Int)]).length = C.length + 1 := by simp
  refine loopG hL (C.length + 1) (fun k y => y.2.2 = (k : Int) ∧ y.1.length ≤ k ∧ (k ≤ C.length → ∃ f : Nat, y.2.1 = (f : Int) ∧ f ≤ a0.size ∧ okC a0.size f (C.drop k) ∧ y.1 ++ trimmed (cutAt (bs a0) f (C.drop k)) = mSplitList a0) ∧ (k = C.length + 1 → y.1 = mSplitList a0))
    (fun k y hk hI hn => ?_) (s0 := ([], 0, 0)) ⟨rfl, by simp, fun _ => ⟨0, rfl, by omega, hok, by rw [hM]; rfl⟩, fun h => by omega⟩
  obtain ⟨out, y2, y3⟩ := y
  simp only at hI ⊢
  obtain ⟨rfl, hol, h1, h2⟩ := hI
  rw [hEl]
  refine ⟨fun hlt => ?_, fun hge => h2 (by omega)⟩
  have hk2 : k ≤ C.length := by omega
  obtain ⟨f, rfl, hf, hokf, hout⟩ := h1 hk2
  have hw : IntKind.i64.wrap ((k : Int) + 1) = ((k + 1 : Nat) : Int) := wrapS (by omega)
  rw [hw]
  -- the end of this part
  have key : ∀ a : Nat, rx (C ++ [(a0.size : Int)]) (k : Int) = (a : Int) → f ≤ a → a ≤ a0.size →
      (∀ out' : List S, out' = (if mTrim (ob (((bs a0).take a).drop f)) ≠ lit [] then out ++ [mTrim (ob (((bs a0).take a).drop f))] else out) → L (out', ((a + 1 : Nat) : Int), ((k + 1 : Nat) : Int))) →
      0 ≤ (k : Int) ∧ (k : Int) < ((C.length + 1 : Nat) : Int) ∧ 0 ≤ (f : Int) ∧ (f : Int) ≤ rx (C ++ [(a0.size : Int)]) (k : Int) ∧ rx (C ++ [(a0.size : Int)]) (k : Int) ≤ (a0.size : Int) ∧
        pTrim (a0.extract ((f : Int).toNat) (rx (C ++ [(a0.size : Int)]) (k : Int)).toNat) ∧
        (mTrim (a0.extract ((f : Int).toNat) (rx (C ++ [(a0.size : Int)]) (k : Int)).toNat) ≠ lit [] →
          (out.length + [mTrim (a0.extract ((f : Int).toNat) (rx (C ++ [(a0.size : Int)]) (k : Int)).toNat)].length) * 16 ≤ 140737488355328 ∧
            L (out ++ [mTrim (a0.extract ((f : Int).toNat) (rx (C ++ [(a0.size : Int)]) (k : Int)).toNat)], IntKind.i64.wrap (rx (C ++ [(a0.size : Int)]) (k : Int) + 1), ((k + 1 : Nat) : Int))) ∧
        (¬ mTrim (a0.extract ((f : Int).toNat) (rx (C ++ [(a0.size : Int)]) (k : Int)).toNat) ≠ lit [] →
          L (out, IntKind.i64.wrap (rx (C ++ [(a0.size : Int)]) (k : Int) + 1), ((k + 1 : Nat) : Int))) := by
    intro a ha hfa has hcont
    rw [ha, Int.toNat_natCast, Int.toNat_natCast, wrapS (by omega), ext_seg]
    refine ⟨by omega, by omega, by omega, by omega, by omega, ?_, fun hne => ⟨by simp only [List.length_singleton]; omega, hcont _ (by rw [if_pos hne])⟩, fun hne => hcont _ (by rw [if_neg hne])⟩
    unfold pTrim sm
    rw [ob_size, List.length_drop, List.length_take]
    omega
  by_cases hkC : k < C.length
  · have hc := drop_cons' hkC
    rw [hc] at hokf hout
    simp only [okC] at hokf
    obtain ⟨o1, o2, o3⟩ := hokf
    have hrx : rx (C ++ [(a0.size : Int)]) (k : Int) = (C[k].toNat : Int) := by
      rw [rx_get _ (by rw [hEl]; omega), List.getElem_append_left hkC]; omega
    refine key C[k].toNat hrx (by omega) (by omega) fun out' ho => hn _ (by omega) ⟨rfl, ?_, fun _ => ⟨C[k].toNat + 1, rfl, by omega, o3, ?_⟩, fun h => by omega⟩
    · rw [ho]; split
      · simp only [List.length_append, List.length_singleton]; omega
      · simp only; omega
    · simp only [cutAt] at hout
      rw [trimmed_cons] at hout
      rw [ho, ← hout]
      split
      · simp
      · rfl
  · have hkeq : k = C.length := by omega
    have hdn : C.drop k = [] := List.drop_eq_nil_of_le (by omega)
    rw [hdn] at hout
    simp only [cutAt] at hout
    have hrx : rx (C ++ [(a0.size : Int)]) (k : Int) = (a0.size : Int) := by
      rw [rx_get _ (by rw [hEl]; omega), List.getElem_append_right (by omega)]
      simp [hkeq]
    refine key a0.size hrx hf (Nat.le_refl _) fun out' ho => hn _ (by omega) ⟨rfl, ?_, fun h => by omega, fun _ => ?_⟩
    · rw [ho]; split
      · simp only [List.length_append, List.length_singleton]; omega
      · simp only; omega
    · have e : (bs a0).take a0.size = bs a0 := List.take_of_length_le (by omega)
      rw [trimmed_cons, trimmed_nil] at hout
      rw [ho, ← hout, e]
      split
      · rfl
      · simp
end Go.Ev
end

section
/- Laws of the plain library: lists of parts, as spec takes them. -/
set_option linter.unusedVariables false
namespace Go.Ev
theorem partsL_end (q : Bool) (cur : List UInt8) : partsL q cur [] = [cur] := by cases q <;> rfl
theorem parts_q {l : List UInt8} {f i : Nat} (hf : f ≤ i) (h : i < l.length) : partsL true ((l.take i).drop f) (l.drop i) =
    if l[i] = 34 then partsL false ((l.take (i + 1)).drop f) (l.drop (i + 1))
    else if l[i] = 92 then (if i + 1 < l.length then partsL true ((l.take (i + 2)).drop f) (l.drop (i + 2)) else [l.drop f])
    else partsL true ((l.take (i + 1)).drop f) (l.drop (i + 1)) := by
  have hc := drop_cons' h
  have hs := seg_succ (f := f) hf h
  by_cases hl : i + 1 < l.length
  · have hc1 := drop_cons' hl
    have hs2 := seg_succ (f := f) (i := i + 1) (by omega) hl
    rw [hc, hc1, partsL_in, ← hc1, if_pos hl, hs]
    rw [hs, List.append_assoc] at hs2
    have hs2 : List.drop f (List.take (i + 2) l) = List.drop f (List.take i l) ++ [l[i], l[i + 1]] := hs2
    rw [hs2]
  · have hn : l.drop (i + 1) = [] := List.drop_eq_nil_of_le (by omega)
    have ha : (l.take (i + 1)).drop f = l.drop f := by rw [List.take_of_length_le (by omega)]
    rw [hc, hn, partsL_one, ← hs, partsL_end, partsL_end, if_neg hl, ha]
    split
    · rfl
    · split <;> rfl
theorem spec_SplitList_ok (a0 : S) (h : pSplitList a0) : s_spec_SplitList a0 (fun r => r = mSplitList a0) := by
  unfold pSplitList sm at h
  intro L hL
  have hl := bs_len a0
  refine loopI hL (fun y => ∃ f i : Nat, y.2.1 = (f : Int) ∧ y.2.2.2 = (i : Int) ∧ i ≤ a0.size + 1 ∧ y.1.length ≤ i ∧
      (i ≤ a0.size → f ≤ i ∧ y.1 ++ trimmed (partsL y.2.2.1 (((bs a0).take i).drop f) ((bs a0).drop i)) = mSplitList a0) ∧
      (i = a0.size + 1 → (f < a0.size → y.2.2.1 = true ∧ y.1 ++ trimmed [(bs a0).drop f] = mSplitList a0) ∧ (¬ f < a0.size → y.1 = mSplitList a0)))
    (fun y => a0.size + 1 - y.2.2.2.toNat) (fun y hI ih => ?_) ([], 0, false, 0) ⟨0, 0, rfl, rfl, by omega, by simp, fun _ => ⟨by omega, rfl⟩, fun h => by omega⟩
  obtain ⟨out, y2, q, y4⟩ := y
  obtain ⟨f, i, hy2, hy4, hi, hol, h1, h2⟩ := hI
  simp only at hy2 hy4 hol h1 h2 ⊢
  subst hy2; subst hy4
  have hsz : ∀ a b : Nat, pTrim (a0.extract a b) := fun a b => by
    unfold pTrim sm
    have := bs_len (a0.extract a b)
    rw [bs_extract, List.length_take, List.length_drop] at this
    omega
  have d0 : (0 : Int) ≤ (i : Int) := by omega
  have f0 : (0 : Int) ≤ (f : Int) := by omega
  have hcap : ∀ p : S, (out.length + [p].length) * 16 ≤ 140737488355328 := fun p => by simp only [List.length_singleton]; omega
  have hw : IntKind.i64.wrap ((i : Int) + 1) = ((i + 1 : Nat) : Int) := wrapS (by omega)
  have hw2 : IntKind.i64.wrap (((i + 1 : Nat) : Int) + 1) = ((i + 2 : Nat) : Int) := wrapS (by omega)
  by_cases hgt : i = a0.size + 1
  · obtain ⟨ha, hb⟩ := h2 hgt
    refine ⟨fun hle => by omega, fun _ => ⟨fun hf => ⟨fun hq => ⟨f0, by omega, hsz _ _, fun hp => ⟨hcap _, ?_⟩, fun hp => ?_⟩, fun hq => absurd (ha (by omega)).1 hq⟩, fun hf => hb (by omega)⟩⟩
    · have e := (ha (by omega)).2
      rw [Int.toNat_natCast] at hp ⊢
      rw [ext_seg, List.take_of_length_le (by omega)] at hp ⊢
      rw [trimmed_cons, trimmed_nil, if_pos hp] at e
      exact e
    · have e := (ha (by omega)).2
      rw [Int.toNat_natCast] at hp
      rw [ext_seg, List.take_of_length_le (by omega)] at hp
      rw [trimmed_cons, trimmed_nil, if_neg hp] at e
      simpa using e
  · obtain ⟨hfi, e⟩ := h1 (by omega)
    have d1 : (i : Int) ≤ (a0.size : Int) := by omega
    have hm : (if (a0.size : Int) < (i : Int) then (a0.size : Int) else (i : Int)) = (i : Int) := if_neg (by omega)
    have hfi' : (f : Int) ≤ (i : Int) := by omega
    by_cases hlt : i < a0.size
    · have d2 : (i : Int) < (a0.size : Int) := by omega
      have d3 : ¬ (a0.size : Int) ≤ (i : Int) := by omega
      have hi3 : i < (bs a0).length := by omega
      have hc := drop_cons' hi3
      have hs := seg_succ (l := bs a0) (f := f) (i := i) hfi hi3
      have b34 : bt a0 (i : Int) = 34 ↔ _ := byte_eq hlt 34 (by omega)
      have b92 : bt a0 (i : Int) = 92 ↔ _ := byte_eq hlt 92 (by omega)
      have b44 : bt a0 (i : Int) = 44 ↔ _ := byte_eq hlt 44 (by omega)
      have next : ∀ (out' : List S) (f' : Nat) (q' : Bool), out'.length ≤ i + 1 → f' ≤ i + 1 → out' ++ trimmed (partsL q' (((bs a0).take (i + 1)).drop f') ((bs a0).drop (i + 1))) = mSplitList a0 → L (out', (f' : Int), q', ((i + 1 : Nat) : Int)) := fun out' f' q' hlen hf' e' =>
        ih _ ⟨f', i + 1, rfl, rfl, by omega, hlen, fun _ => ⟨hf', e'⟩, fun hh => by omega⟩ (by simp only [Int.toNat_natCast]; omega)
      have hne1 : ((34 : Int) = 92) = False := by decide
      have hne2 : ((34 : Int) = 44) = False := by decide
      have hne3 : ((44 : Int) = 92) = False := by decide
      have hne4 : ((44 : Int) = 34) = False := by decide
      have hne5 : ((92 : Int) = 34) = False := by decide
      have hne6 : ((92 : Int) = 44) = False := by decide
      have piece : out ++ trimmed (partsL q (((bs a0).take i).drop f) ((bs a0).drop i)) = mSplitList a0 := e
      by_cases c34 : bt a0 (i : Int) = 34
      · have e34 := b34.1 c34
        cases q with
        | false =>
          rw [hc] at e
          simp only [d1, d2, d3, d0, hm, hw, hw2, c34, hne1, hne2, Bool.false_eq_true, not_false_eq_true, not_true_eq_false, true_implies, false_implies, true_and, and_true, decide_true, decide_false]
          rw [partsL_out, if_pos (by rw [e34]; rfl), ← hs] at e
          exact next out f true (by omega) (by omega) e
        | true =>
          simp only [d1, d2, d3, d0, hm, hw, hw2, c34, hne1, hne2, not_false_eq_true, not_true_eq_false, true_implies, false_implies, true_and, and_true, decide_true, decide_false]
          rw [parts_q hfi hi3, if_pos (by rw [e34]; rfl)] at e
          exact next out f false (by omega) (by omega) e
      · have n34 : ¬ (bs a0)[i] = 34 := fun h => c34 (b34.2 (by rw [h]; rfl))
        cases q with
        | true =>
          rw [parts_q hfi hi3, if_neg n34] at e
          by_cases c92 : bt a0 (i : Int) = 92
          · have e92 := b92.1 c92
            simp only [d1, d2, d3, d0, hm, hw, hw2, c92, hne5, hne6, not_false_eq_true, not_true_eq_false, true_implies, false_implies, true_and, and_true, decide_true, decide_false]
            rw [if_pos (by rw [e92]; rfl)] at e
            refine ih (out, (f : Int), true, ((i + 2 : Nat) : Int)) ⟨f, i + 2, rfl, rfl, by omega, (by show out.length ≤ i + 2; omega), fun hle => ⟨by omega, ?_⟩, fun heq => ⟨fun _ => ⟨rfl, ?_⟩, fun hn => absurd (by omega) hn⟩⟩ (by simp only [Int.toNat_natCast]; omega)
            · rw [if_pos (by omega)] at e; exact e
            · rw [if_neg (by omega)] at e; exact e
          · have n92 : ¬ (bs a0)[i] = 92 := fun h => c92 (b92.2 (by rw [h]; rfl))
            rw [if_neg n92] at e
            by_cases c44 : bt a0 (i : Int) = 44
            · simp only [d1, d2, d3, d0, hm, hw, hw2, c44, hne3, hne4, not_false_eq_true, not_true_eq_false, true_implies, false_implies, true_and, and_true, decide_true, decide_false]
              exact next out f true (by omega) (by omega) e
            · simp only [d1, d2, d3, d0, hm, hw, hw2, c34, c92, c44, not_false_eq_true, not_true_eq_false, true_implies, false_implies, true_and, and_true, decide_true, decide_false]
              exact next out f true (by omega) (by omega) e
        | false =>
          rw [hc, partsL_out, if_neg n34] at e
          by_cases c44 : bt a0 (i : Int) = 44
          · have e44 := b44.1 c44
            rw [if_pos (by rw [e44]; rfl), trimmed_cons] at e
            simp only [d1, d2, d3, d0, f0, hfi', hm, hw, hw2, c44, hne3, hne4, hsz, hcap, Bool.false_eq_true, not_false_eq_true, not_true_eq_false, true_implies, false_implies, true_and, and_true, decide_true, decide_false, Int.toNat_natCast]
            have hn : ((bs a0).take (i + 1)).drop (i + 1) = [] := List.drop_eq_nil_of_le (by rw [List.length_take]; omega)
            refine ⟨fun hp => ?_, fun hp => ?_⟩
            · rw [ext_seg] at hp ⊢
              rw [if_pos hp] at e
              exact next _ (i + 1) false (by simp only [List.length_append, List.length_singleton]; omega) (by omega) (by rw [hn, List.append_assoc]; exact e)
            · rw [ext_seg] at hp
              rw [if_neg hp] at e
              exact next _ (i + 1) false (by omega) (by omega) (by rw [hn]; exact e)
          · have n44 : ¬ (bs a0)[i] = 44 := fun h => c44 (b44.2 (by rw [h]; rfl))
            rw [if_neg n44, ← hs] at e
            simp only [d1, d2, d3, d0, hm, hw, hw2, c34, c44, Bool.false_eq_true, not_false_eq_true, not_true_eq_false, true_implies, false_implies, true_and, and_true, decide_true, decide_false]
            exact next out f false (by omega) (by omega) e
    · have hie : i = a0.size := by omega
      subst hie
      have hn : (bs a0).drop a0.size = [] := List.drop_eq_nil_of_le (by omega)
      rw [hn, partsL_end, trimmed_cons, trimmed_nil] at e
      have d2 : ¬ (a0.size : Int) < (a0.size : Int) := by omega
      have d3 : (a0.size : Int) ≤ (a0.size : Int) := by omega
      simp only [d1, d2, d3, d0, f0, hfi', hm, hw, hsz, hcap, not_false_eq_true, not_true_eq_false, true_implies, false_implies, true_and, and_true, Int.toNat_natCast, if_false]
      have fin : ∀ out' : List S, out'.length ≤ a0.size + 1 → out' = mSplitList a0 → L (out', ((a0.size + 1 : Nat) : Int), q, ((a0.size + 1 : Nat) : Int)) := fun out' hlen e' =>
        ih _ ⟨a0.size + 1, a0.size + 1, rfl, rfl, by omega, hlen, fun hh => by omega, fun _ => ⟨fun hh => by omega, fun _ => e'⟩⟩ (by simp only [Int.toNat_natCast]; omega)
      refine ⟨fun hp => ?_, fun hp => ?_⟩
      · rw [ext_seg] at hp ⊢
        rw [if_pos hp] at e
        exact fin _ (by simp only [List.length_append, List.length_singleton]; omega) e
      · rw [ext_seg] at hp
        rw [if_neg hp] at e
        exact fin _ (by omega) (by simpa using e)
end Go.Ev
end

section
/- Laws of the plain library: directives. -/
set_option linter.unusedVariables false
namespace Go.Ev
theorem index_first {l : List UInt8} {c : UInt8} {k : Nat} (hk : l[k]? = some c) (hf : ∀ j, j < k → l[j]? ≠ some c) : Lib.indexByte l c = (k : Int) := by
  have hge := Lib.indexByte_ge l c
  by_cases hn : Lib.indexByte l c = -1
  · exact absurd hk (Lib.indexByte_none hn k)
  · obtain ⟨o, ho⟩ : ∃ o : Nat, Lib.indexByte l c = (o : Int) := ⟨(Lib.indexByte l c).toNat, by omega⟩
    obtain ⟨h1, h2⟩ := Lib.indexByte_some ho
    rcases Nat.lt_trichotomy o k with h | h | h
    · exact absurd h1 (hf o h)
    · rw [ho, h]
    · exact absurd hk (h2 k h)
theorem index_not {l : List UInt8} {c : UInt8} (hf : ∀ j, j < l.length → l[j]? ≠ some c) : Lib.indexByte l c = -1 := by
  have hge := Lib.indexByte_ge l c
  by_cases hn : Lib.indexByte l c = -1
  · exact hn
  · obtain ⟨o, ho⟩ : ∃ o : Nat, Lib.indexByte l c = (o : Int) := ⟨(Lib.indexByte l c).toNat, by omega⟩
    obtain ⟨h1, h2⟩ := Lib.indexByte_some ho
    exact absurd h1 (hf o (List.getElem?_eq_some_iff.1 h1).1)
theorem cut_at {p : S} {k : Nat} (hk : k < p.size) (hb : bt p (k : Int) = 61) (hf : ∀ j, j < k → bt p (j : Int) ≠ 61) : (mCut p (lit [61])).1 = p.extract 0 k ∧ (mCut p (lit [61])).2.1 = p.extract (k + 1) p.size := by
  have hl := bs_len p
  have e : Lib.index (bs p) (bs (lit [61])) = (k : Int) := by
    rw [show bs (lit [61]) = [61] from rfl, Lib.index_one]
    refine index_first ?_ fun j hj hh => ?_
    · rw [List.getElem?_eq_getElem (by omega), (byte_eq hk 61 (by omega)).1 hb]; rfl
    · rw [List.getElem?_eq_getElem (by omega)] at hh
      exact hf j hj ((byte_eq (by omega) 61 (by omega)).2 (Option.some.inj hh))
  unfold mCut Lib.cut
  rw [e, if_pos (by omega)]
  refine ⟨bs_inj ?_, bs_inj ?_⟩
  · rw [bs_ob, bs_extract]; simp
  · rw [bs_ob, bs_extract]
    show (bs p).drop ((k : Int).toNat + 1) = _
    rw [Int.toNat_natCast]
    exact (List.take_of_length_le (by rw [List.length_drop]; omega)).symm
theorem cut_none {p : S} (hf : ∀ j, j < p.size → bt p (j : Int) ≠ 61) : (mCut p (lit [61])).1 = p.extract 0 p.size ∧ (mCut p (lit [61])).2.1 = lit [] := by
  have hl := bs_len p
  have e : Lib.index (bs p) (bs (lit [61])) = -1 := by
    rw [show bs (lit [61]) = [61] from rfl, Lib.index_one]
    refine index_not fun j hj hh => ?_
    rw [List.getElem?_eq_getElem hj] at hh
    exact hf j (by omega) ((byte_eq (by omega) 61 (by omega)).2 (Option.some.inj hh))
  unfold mCut Lib.cut
  rw [e, if_neg (by omega)]
  refine ⟨bs_inj ?_, rfl⟩
  rw [bs_ob, bs_extract, List.drop_zero, List.take_of_length_le (by omega)]
theorem cut_sizes (p : S) : (mCut p (lit [61])).1.size ≤ p.size ∧ (mCut p (lit [61])).2.1.size ≤ p.size := by
  have hl := bs_len p
  unfold mCut Lib.cut
  split
  · simp only [ob_size, List.length_take, List.length_drop]; omega
  · simp only [ob_size, List.length_nil]; omega
theorem extract_size (p : S) (a b : Nat) : (p.extract a b).size ≤ p.size := by
  have := bs_len (p.extract a b)
  have hl := bs_len p
  rw [bs_extract, List.length_take, List.length_drop] at this
  omega
/-- What is gathered from parts. -/
theorem gather {parts : List S} (hn : parts.length ≤ 1073741824) {B L : List Fld × Int → Prop} (hL : ∀ y, B y → L y)
    (step : ∀ (out : List Fld) (i : Nat) (hi : i < parts.length), out.length ≤ i → (dirOf parts[i] = none → L (out, IntKind.i64.wrap ((i : Int) + 1))) → (∀ d, dirOf parts[i] = some d → L (out ++ [d], IntKind.i64.wrap ((i : Int) + 1))) → B (out, (i : Int)))
    (fin : B (parts.filterMap dirOf, (parts.length : Int))) : L ([], 0) := by
  refine loopG hL parts.length (fun i y => y.2 = (i : Int) ∧ y.1.length ≤ i ∧ y.1 ++ (parts.drop i).filterMap dirOf = parts.filterMap dirOf) (fun i y hi hI ih => ?_) ⟨rfl, by simp, rfl⟩
  obtain ⟨out, y2⟩ := y
  obtain ⟨h1, h2, h3⟩ := hI
  simp only at h1 h2 h3
  subst h1
  by_cases hlt : i < parts.length
  · have hw : IntKind.i64.wrap ((i : Int) + 1) = ((i + 1 : Nat) : Int) := wrapS (by omega)
    rw [drop_cons' hlt] at h3
    refine step out i hlt h2 (fun hd => ?_) (fun d hd => ?_)
    · rw [List.filterMap_cons_none hd] at h3
      exact ih _ hlt ⟨hw, by simp only; omega, h3⟩
    · rw [List.filterMap_cons_some hd] at h3
      exact ih _ hlt ⟨hw, by simp only [List.length_append, List.length_singleton]; omega, by simp only [List.append_assoc]; exact h3⟩
  · have hie : i = parts.length := by omega
    subst hie
    rw [List.drop_eq_nil_of_le (Nat.le_refl _)] at h3
    have h3 : out = parts.filterMap dirOf := by simpa using h3
    rw [h3]; exact fin
theorem unq_pos {b : S} (h1 : 2 ≤ (b.size : Int)) (h2 : bt b 0 = 34) (h3 : bt b ((b.size : Int) - 1) = 34) : b.extract 1 (b.size - 1) = mL7Unquote b := by
  unfold mL7Unquote; rw [if_pos ⟨h1, h2, h3⟩]
theorem unq_neg {b : S} (h : ¬ (2 ≤ (b.size : Int) ∧ bt b 0 = 34 ∧ bt b ((b.size : Int) - 1) = 34)) : b = mL7Unquote b := by
  unfold mL7Unquote; rw [if_neg h]
theorem impl_Directives_ok (a0 : List Fld) (h : pDirectives a0) : s_impl_Directives a0 (fun r => r = mDirectives a0) := by
  have hg := fieldGet_size a0 nameCC h
  refine ⟨h, by unfold pSplitList sm; exact Nat.le_trans hg (by omega), ?_⟩
  have hb := splitList_bound (mFieldGet a0 nameCC).1
  have hm : ∀ x ∈ mSplitList (mFieldGet a0 nameCC).1, x.size ≤ 3 * 1048576 := fun x hx => Nat.le_trans (splitList_mem hx) hg
  have ht : (mSplitList (mFieldGet a0 nameCC).1).filterMap dirOf = mDirectives a0 := rfl
  intro L hL
  have hlen : (mSplitList (mFieldGet a0 nameCC).1).length ≤ 1073741824 := by omega
  refine gather (parts := mSplitList (mFieldGet a0 nameCC).1) hlen hL (fun out i hi hol hnone hsome => ?_) ?_
  · unfold nameCC at *
    generalize mSplitList (mFieldGet a0 (lit [99, 97, 99, 104, 101, 45, 99, 111, 110, 116, 114, 111, 108])).1 = parts at *
    have hp := hm parts[i] (List.getElem_mem hi)
    have hc := cut_sizes parts[i]
    simp only [rx_nat parts i hi]
    unfold dirOf at hnone hsome
    generalize (mCut parts[i] (lit [61])).1 = a at *
    generalize (mCut parts[i] (lit [61])).2.1 = b at *
    refine ⟨fun _ => ⟨by omega, by omega, by unfold pCut sm; omega, by unfold pIsTokenText sm; omega, fun ct => hnone (if_neg ct), fun ct => ?_⟩, fun hn => absurd (by omega) hn⟩
    have hsome := hsome _ (if_pos (Classical.not_not.1 ct))
    have hcap : ∀ d : Fld, (out.length + [d].length) * 32 ≤ 140737488355328 := fun d => by simp only [List.length_singleton]; omega
    have hlow : pLower a := by unfold pLower sm; omega
    refine ⟨fun h2 => ?_, fun h2 => ⟨hlow, hcap _, by rw [← unq_neg (fun hh => h2 hh.1)] at hsome; exact hsome⟩⟩
    have hw : IntKind.i64.wrap ((b.size : Int) - 1) = (b.size : Int) - 1 := wrap64 (by omega) (by omega)
    rw [hw]
    refine ⟨by omega, by omega, fun h3 => ⟨by omega, by omega, fun h4 => ⟨by omega, by omega, by omega, hlow, hcap _, ?_⟩, fun h4 => ⟨hlow, hcap _, ?_⟩⟩, fun h3 => ⟨hlow, hcap _, ?_⟩⟩
    · rw [← unq_pos h2 h3 h4] at hsome
      rw [show ((b.size : Int) - 1).toNat = b.size - 1 by omega]
      exact hsome
    · rw [← unq_neg (fun hh => h4 hh.2.2)] at hsome; exact hsome
    · rw [← unq_neg (fun hh => h3 hh.2.1)] at hsome; exact hsome
  · exact ⟨fun hh => absurd hh (by unfold nameCC; omega), fun _ => ht⟩
theorem spec_Directives_ok (a0 : List Fld) (h : pDirectives a0) : s_spec_Directives a0 (fun r => r = mDirectives a0) := by
  have hg := fieldGet_size a0 nameCC h
  refine ⟨h, by unfold pSplitList sm; exact Nat.le_trans hg (by omega), ?_⟩
  have hb := splitList_bound (mFieldGet a0 nameCC).1
  have hm : ∀ x ∈ mSplitList (mFieldGet a0 nameCC).1, x.size ≤ 3 * 1048576 := fun x hx => Nat.le_trans (splitList_mem hx) hg
  have ht : (mSplitList (mFieldGet a0 nameCC).1).filterMap dirOf = mDirectives a0 := rfl
  intro L hL
  have hlen : (mSplitList (mFieldGet a0 nameCC).1).length ≤ 1073741824 := by omega
  refine gather (parts := mSplitList (mFieldGet a0 nameCC).1) hlen hL (fun out i hi hol hnone hsome => ?_) ?_
  · unfold nameCC at *
    generalize mSplitList (mFieldGet a0 (lit [99, 97, 99, 104, 101, 45, 99, 111, 110, 116, 114, 111, 108])).1 = parts at *
    have hp := hm parts[i] (List.getElem_mem hi)
    simp only [rx_nat parts i hi]
    unfold dirOf at hnone hsome
    generalize parts[i] = p at *
    refine ⟨fun _ => ⟨by omega, by omega, fun L2 hL2 => ?_⟩, fun hn => absurd (by omega) hn⟩
    have hcap : ∀ d : Fld, (out.length + [d].length) * 32 ≤ 140737488355328 := fun d => by simp only [List.length_singleton]; omega
    have tok : ∀ a b, pIsTokenText (p.extract a b) := fun a b => by have := extract_size p a b; unfold pIsTokenText sm; omega
    have low : ∀ a b, pLower (p.extract a b) := fun a b => by have := extract_size p a b; unfold pLower sm; omega
    have unq : ∀ a b, pL7Unquote (p.extract a b) := fun a b => by have := extract_size p a b; unfold pL7Unquote sm; omega
    refine loopN hL2 p.size (by omega) (fun k => ∀ j, j < k → bt p (j : Int) ≠ 61) (fun k hk hI ih => ?_) (fun j hj => by omega)
    have hwk : k < p.size → IntKind.i64.wrap ((k : Int) + 1) = ((k + 1 : Nat) : Int) := fun _ => wrapS (by omega)
    refine ⟨fun hlt => ?_, fun hge => ?_⟩
    · have hlt : k < p.size := by omega
      refine ⟨by omega, by omega, fun h61 => ih hlt fun j hj => ?_, fun h61 => ?_⟩
      · by_cases e : j = k
        · subst e; exact h61
        · exact hI j (by omega)
      · obtain ⟨e1, e2⟩ := cut_at hlt (Classical.not_not.1 h61) hI
        rw [e1] at hnone hsome
        rw [e2] at hsome
        rw [hwk hlt, Int.toNat_natCast, Int.toNat_natCast]
        refine ⟨by omega, by omega, tok _ _, fun ct => hnone (if_neg ct), fun ct => ⟨by omega, by omega, low _ _, fun _ => ⟨by omega, by omega, unq _ _, hcap _, hsome _ (if_pos (Classical.not_not.1 ct))⟩, fun hh => absurd (by omega) hh⟩⟩
    · have hke : k = p.size := by omega
      subst hke
      obtain ⟨e1, e2⟩ := cut_none hI
      rw [e1] at hnone hsome
      rw [e2] at hsome
      have hu : mL7Unquote (lit []) = lit [] := (unq_neg (fun hh => by have := hh.1; have h0 : (lit []).size = 0 := rfl; omega)).symm
      rw [hu] at hsome
      rw [Int.toNat_natCast]
      refine ⟨by omega, by omega, tok _ _, fun ct => hnone (if_neg ct), fun ct => ⟨by omega, by omega, low _ _, fun hh => absurd hh (by omega), fun _ => ⟨hcap _, hsome _ (if_pos (Classical.not_not.1 ct))⟩⟩⟩
  · exact ⟨fun hh => absurd hh (by unfold nameCC; omega), fun _ => ht⟩
end Go.Ev
end

section
/- Laws of the plain library: what may be stored, what may be shared. -/
set_option linter.unusedVariables false
namespace Go.Ev
theorem md_req' {q : Req} (h : md q) : md q.2.2.1 := by
  unfold md at h ⊢; simp only [cz_pair] at h; omega
theorem md_rsp' {r : Rsp} (h : md r) : md r.2.1 := by
  unfold md at h ⊢; simp only [cz_pair] at h; omega
theorem impl_itsOwn_ok (a0 : Req) (h : pItsOwn a0) : s_impl_itsOwn a0 (fun r => r = mItsOwn a0) := by
  have h : md a0.2.2.1 := h
  unfold s_impl_itsOwn mItsOwn sGET sAuth sNone sSince sNoStore sNoCache
  simp only [pHasField, pCcHas, h, true_and]
  (repeat' first | apply And.intro | intro _) <;> simp_all
theorem spec_l16Own_ok (a0 : Req) (h : pItsOwn a0) : s_spec_l16Own a0 (fun r => r = mItsOwn a0) := by
  have h : md a0.2.2.1 := h
  unfold s_spec_l16Own mItsOwn mHasField sGET sAuth sNone sSince sNoStore sNoCache
  simp only [pFieldGet, pCcHas, h, true_and]
  (repeat' first | apply And.intro | intro _) <;> simp_all
theorem impl_MayShare_ok (a0 : Req) (a1 : Flt) (a2 : Int) (h : pMayShare a0 a1 a2) : s_impl_MayShare a0 a1 a2 (fun r => r = mMayShare a0 a1 a2) := by
  obtain ⟨h0, h1⟩ := h
  have q0 := md_req' h0
  have h1' : cz a1 ≤ 1048576 := h1
  simp only [cz_pair] at h1'
  have p1 : pPicked (fltReq a1) (fltRsp a1) := by unfold pPicked md fltReq fltRsp; simp only; omega
  have p2 : pVaryFits a0 (fltRsp a1) (mPicked (fltReq a1) (fltRsp a1)) := by
    refine ⟨q0, ?_⟩
    unfold md fltRsp; simp only; omega
  have p3 : pItsOwn a0 := q0
  refine ⟨fun c1 => ⟨fun c2 => ⟨fun c3 => ⟨p1, p2, fun c4 => ⟨p3, ?_⟩, fun c4 => ?_⟩, fun c3 => ?_⟩, fun c2 => ?_⟩, fun c1 => ?_⟩
  · unfold mMayShare
    rw [Bool.not_eq_true] at c1
    rw [c1, c2, c3, show mVaryFits a0 (fltRsp a1) (mPicked (fltReq a1) (fltRsp a1)) = true from c4]
    cases mItsOwn a0 <;> rfl
  · unfold mMayShare
    rw [show mVaryFits a0 (fltRsp a1) (mPicked (fltReq a1) (fltRsp a1)) = false from (Bool.not_eq_true _).mp c4]
    simp
  · unfold mMayShare; rw [Bool.not_eq_true] at c3; rw [c3]; simp
  · unfold mMayShare; rw [Bool.not_eq_true] at c2; rw [c2]; simp
  · unfold mMayShare; rw [Classical.not_not.1 c1]; simp
theorem spec_MayShare_ok (a0 : Req) (a1 : Flt) (a2 : Int) (h : pMayShare a0 a1 a2) : s_spec_MayShare a0 a1 a2 (fun r => r = mMayShare a0 a1 a2) := impl_MayShare_ok a0 a1 a2 h
theorem storable_pre {r : Rsp} (h : md r) : md r.2.1 ∧ pFieldGet r.2.1 (lit [118, 97, 114, 121]) ∧ pSplitList (mFieldGet r.2.1 (lit [118, 97, 114, 121])).1 ∧ pContains_string (mSplitList (mFieldGet r.2.1 (lit [118, 97, 114, 121])).1) (lit [42]) := by
  have hr := md_rsp' h
  have hg := fieldGet_size r.2.1 (lit [118, 97, 114, 121]) hr
  have hb := splitList_bound (mFieldGet r.2.1 (lit [118, 97, 114, 121])).1
  exact ⟨hr, hr, by unfold pSplitList sm; omega, by unfold pContains_string; simp only [maxLen]; omega⟩
theorem impl_Storable_ok (a0 : Req) (a1 : Rsp) (h : pStorable a0 a1) : s_impl_Storable a0 a1 (fun r => r = mStorable a0 a1) := by
  obtain ⟨h0, h1⟩ := h
  have hq := md_req' h0
  obtain ⟨hr, p1, p2, p3⟩ := storable_pre h1
  have p4 : pResponseOk a1 := hr
  unfold s_impl_Storable mStorable sGET sNoStore sPrivate sVary sAuth sPublic sSMaxAge sMust sMaxAge sExpires
  simp only [pStorable_1, pCcHas, pHasField, pHeuristic, hq, hr, p1, p2, p3, p4, true_and, mStorable_1]
  generalize mContains_string (mSplitList (mFieldGet a1.2.1 (lit [118, 97, 114, 121])).1) (lit [42]) = b1
  generalize mCcHas a0.2.2.1 (lit [110, 111, 45, 115, 116, 111, 114, 101]) = b2
  generalize mCcHas a1.2.1 (lit [110, 111, 45, 115, 116, 111, 114, 101]) = b3
  generalize mCcHas a1.2.1 (lit [112, 114, 105, 118, 97, 116, 101]) = b4
  generalize mHasField a0.2.2.1 (lit [97, 117, 116, 104, 111, 114, 105, 122, 97, 116, 105, 111, 110]) = b5
  generalize mCcHas a1.2.1 (lit [112, 117, 98, 108, 105, 99]) = b6
  generalize mCcHas a1.2.1 (lit [115, 45, 109, 97, 120, 97, 103, 101]) = b7
  generalize mCcHas a1.2.1 (lit [109, 117, 115, 116, 45, 114, 101, 118, 97, 108, 105, 100, 97, 116, 101]) = b8
  generalize mCcHas a1.2.1 (lit [109, 97, 120, 45, 97, 103, 101]) = b9
  generalize mHasField a1.2.1 (lit [101, 120, 112, 105, 114, 101, 115]) = b10
  generalize mHeuristic a1.1 = b11
  generalize mResponseOk a1 = b12
  (repeat' first | apply And.intro | intro _) <;> simp_all
theorem spec_Storable_ok (a0 : Req) (a1 : Rsp) (h : pStorable a0 a1) : s_spec_Storable a0 a1 (fun r => r = mStorable a0 a1) := by
  obtain ⟨h0, h1⟩ := h
  have hq := md_req' h0
  obtain ⟨hr, p1, p2, p3⟩ := storable_pre h1
  have p4 : pResponseOk a1 := hr
  have hlen : (mSplitList (mFieldGet a1.2.1 (lit [118, 97, 114, 121])).1).length ≤ maxLen := p3
  refine ⟨fun c => ?_, fun c0 => ⟨fun c => ?_, fun c1 => ⟨p4, fun c => ?_, fun c2 => ⟨hq, fun c => ?_, fun c3 => ⟨hr, fun c => ?_, fun c4 => ⟨hr, fun c => ?_, fun c5 => ⟨hr, p2,
    scanT_ok (xs := mSplitList (mFieldGet a1.2.1 (lit [118, 97, 114, 121])).1) (C := fun x => x = lit [42]) (Qh := fun _ => false = mStorable a0 a1) hlen (fun i hi hc _ => ?_) (fun hx => ?_)⟩⟩⟩⟩⟩⟩⟩
  · simp [mStorable, sGET, c]
  · simp [mStorable, c]
  · rw [Bool.not_eq_true] at c; simp [mStorable, c]
  · simp [mStorable, sNoStore, c]
  · simp [mStorable, sNoStore, c]
  · simp [mStorable, sPrivate, c]
  · have hb : mContains_string (mSplitList (mFieldGet a1.2.1 (lit [118, 97, 114, 121])).1) (lit [42]) = true := any_true hi (by rw [hc]; simp)
    simp [mStorable, sVary, hb]
  · have hb : mContains_string (mSplitList (mFieldGet a1.2.1 (lit [118, 97, 114, 121])).1) (lit [42]) = false := List.any_eq_false.2 fun x hm => by have := hx x hm; simpa using fun e => this e.symm
    have c2' := Classical.not_not.1 c2
    have c0' := Classical.not_not.1 c0
    rw [Bool.not_eq_true] at c3 c4 c5
    unfold mStorable mHasField sGET sNoStore sPrivate sVary sAuth sPublic sSMaxAge sMust sMaxAge sExpires
    rw [hb, c2', c3, c4, c5, decide_eq_true c0', decide_eq_false c1]
    simp only [pFieldGet, pCcHas, pHeuristic, hq, hr, true_and]
    generalize (mFieldGet a0.2.2.1 (lit [97, 117, 116, 104, 111, 114, 105, 122, 97, 116, 105, 111, 110])).2 = b5
    generalize mCcHas a1.2.1 (lit [112, 117, 98, 108, 105, 99]) = b6
    generalize mCcHas a1.2.1 (lit [115, 45, 109, 97, 120, 97, 103, 101]) = b7
    generalize mCcHas a1.2.1 (lit [109, 117, 115, 116, 45, 114, 101, 118, 97, 108, 105, 100, 97, 116, 101]) = b8
    generalize mCcHas a1.2.1 (lit [109, 97, 120, 45, 97, 103, 101]) = b9
    generalize (mFieldGet a1.2.1 (lit [101, 120, 112, 105, 114, 101, 115])).2 = b10
    generalize mHeuristic a1.1 = b11
    clear hx hb
    (repeat' first | apply And.intro | intro _) <;> simp_all
end Go.Ev
end

section
/- Library functions: strings.Join, strings.Trim, strings.Cut, strings.IndexByte: contracts of the small machine. -/
set_option linter.unusedVariables false
namespace Go.Ev
open Go.RowKit
theorem res_bool {S : Nat → Prop} {col : Nat → Option Nat} {W : World} (x : Bool) : resR S col W false [(false, [.bool])] (x : caps [[L.bool]]) 0 [.bool x] := by
  simp only [resR]
  exact ⟨_, _, [.bool x], rfl, by simp only [outR]; exact ⟨_, _, rfl, rfl, rfl⟩, rfl, rfl⟩
theorem cell_lt {w : World} {a : Addr} {v : Value} (h : w.cell? a = some v) : a.block < w.heap.size := by
  rcases Nat.lt_or_ge a.block w.heap.size with h' | h'
  · exact h'
  · unfold World.cell? at h
    rw [Array.getElem?_eq_none h'] at h
    simp at h
/-! ### strings.IndexByte -/
def indexByteCt (f : FuncId) : Ct := { f, ps := [.v false .ro [.str], .v false .ro [.int .u8]], rs := [(false, [.int .i64])], shared := false, pre := fun (x : S × Int) => pIndexByte x.1 x.2, F := fun (x : S × Int) => mIndexByte x.1 x.2 }
theorem indexByte_ct {P : Program} {f : FuncId} {w : World} (hf : FnIs P f)
    (hI : ∀ (s : ByteArray) (c : Int), Calls P f #[.string s, .int .u8 c] w fun e w' => e = .returned (.int .i64 (Lib.indexByte s.data.toList c.toNat.toUInt8)) ∧ w' = w) : CtAt P (indexByteCt f) w := by
  refine ct_lib hf fun vals x S hS ha hp => ?_
  obtain ⟨v, vs', hv, h1, h2⟩ := args_v ha
  obtain ⟨u, us', rfl, h3, h4⟩ := args_v h2
  have h4 := args_e h4
  subst h4
  have h1 : v = .string x.1 := h1
  have h3 : u = .int .u8 x.2 := h3
  subst h1; subst h3
  rw [arr_of hv]
  refine (hI x.1 x.2).mono fun e w' ⟨he, hw⟩ => ⟨[.int .i64 (mIndexByte x.1 x.2)], _, he, ?_, Or.inl rfl, fun S' => res_int _⟩
  rw [hw]; exact Below.refl _ _
/-! ### strings.Trim -/
def trimLCt (f : FuncId) : Ct := { f, ps := [.v false .ro [.str], .v false .ro [.str]], rs := [(false, [.str])], shared := false, pre := fun (x : S × S) => pTrimL x.1 x.2, F := fun (x : S × S) => mTrimL x.1 x.2 }
theorem trimL_ct {P : Program} {f : FuncId} {w : World} (hf : FnIs P f)
    (hI : ∀ (s cs : ByteArray), s.size ≤ 9223372036854775807 → cs.size < 4294967281 → (∀ (j : Nat) b, cs.data.toList[j]? = some b → b.toNat < 128) →
      Calls P f #[.string s, .string cs] w fun e w' => e = .returned (.string ⟨(Lib.trimS s.data.toList cs.data.toList).toArray⟩) ∧ Below w.heap.size w w') : CtAt P (trimLCt f) w := by
  refine ct_lib hf fun vals x S hS ha hp => ?_
  obtain ⟨v, vs', hv, h1, h2⟩ := args_v ha
  obtain ⟨u, us', rfl, h3, h4⟩ := args_v h2
  have h4 := args_e h4
  subst h4
  have h1 : v = .string x.1 := h1
  have h3 : u = .string x.2 := h3
  subst h1; subst h3
  rw [arr_of hv]
  have hp : x.1.size ≤ 1073741824 ∧ x.2 = lit [32, 9] := hp
  obtain ⟨hp1, hp2⟩ := hp
  have hall : ∀ b ∈ (lit [32, 9]).data.toList, b.toNat < 128 := by decide
  refine (hI x.1 x.2 (by omega) (by rw [hp2]; decide) (fun j b hb => by rw [hp2] at hb; exact hall b (List.mem_of_getElem? hb))).mono fun e w' ⟨he, hb⟩ => ⟨[.string (mTrimL x.1 x.2)], _, he, hb, Or.inl rfl, fun S' => res_str _⟩
/-! ### strings.Cut -/
def cutCt (f : FuncId) : Ct := { f, ps := [.v false .ro [.str], .v false .ro [.str]], rs := [(false, [.str]), (false, [.str]), (false, [.bool])], shared := false, pre := fun (x : S × S) => pCut x.1 x.2, F := fun (x : S × S) => mCut x.1 x.2 }
theorem cut_ct {P : Program} {f : FuncId} {w : World} (hf : FnIs P f)
    (hI : ∀ (s sep : ByteArray), s.size < 4294967281 →
      Calls P f #[.string s, .string sep] w fun e w' => e = .returned (.tuple #[.string ⟨(Lib.cut s.data.toList sep.data.toList).1.toArray⟩, .string ⟨(Lib.cut s.data.toList sep.data.toList).2.1.toArray⟩, .bool (Lib.cut s.data.toList sep.data.toList).2.2]) ∧ ∃ n, w' = w.drewN n) : CtAt P (cutCt f) w := by
  refine ct_lib hf fun vals x S hS ha hp => ?_
  obtain ⟨v, vs', hv, h1, h2⟩ := args_v ha
  obtain ⟨u, us', rfl, h3, h4⟩ := args_v h2
  have h4 := args_e h4
  subst h4
  have h1 : v = .string x.1 := h1
  have h3 : u = .string x.2 := h3
  subst h1; subst h3
  rw [arr_of hv]
  have hp : x.1.size ≤ 1073741824 := hp
  refine (hI x.1 x.2 (by omega)).mono fun e w' ⟨he, n, hw⟩ => ⟨[.string (mCut x.1 x.2).1, .string (mCut x.1 x.2).2.1, .bool (mCut x.1 x.2).2.2], _, he, ?_, Or.inr ⟨by simp, rfl⟩, fun S' => ?_⟩
  · rw [hw]
    exact ⟨rfl, rfl, rfl, Nat.le_refl _, fun _ _ => rfl⟩
  · simp only [cutCt, resR]
    refine ⟨_, _, [.string (mCut x.1 x.2).1], rfl, by simp only [outR]; exact ⟨_, _, rfl, rfl, rfl⟩, rfl, ?_⟩
    refine ⟨_, _, [.string (mCut x.1 x.2).2.1], rfl, by simp only [outR]; exact ⟨_, _, rfl, rfl, rfl⟩, rfl, ?_⟩
    exact ⟨_, _, [.bool (mCut x.1 x.2).2.2], rfl, by simp only [outR]; exact ⟨_, _, rfl, rfl, rfl⟩, rfl, rfl⟩
/-! ### strings.Join -/
theorem joinL_tail (sep : S) : ∀ (x : S) (r : List S), bs (joinL sep (x :: r)) = bs x ++ Lib.joinTail (bs sep) (r.map bs)
  | x, [] => by simp [joinL, Lib.joinTail]
  | x, y :: r => by
    rw [joinL, bs_append, bs_append, joinL_tail sep y r]
    simp only [Lib.joinTail, List.map_cons, List.flatten_cons, List.append_assoc]
theorem mJoin_lib (xs : List S) (sep : S) : mJoin xs sep = ob (Lib.join (xs.map bs) (bs sep)) := by
  cases xs with
  | nil => rfl
  | cons x r =>
    refine bs_inj ?_
    rw [bs_ob, mJoin, joinL_tail, List.map_cons, Lib.join_cons]
theorem lens_sum : ∀ xs : List S, Lib.lens (xs.map bs) = sumN (xs.map fun x => x.size)
  | [] => rfl
  | x :: r => by
    have := lens_sum r
    unfold Lib.lens at this ⊢
    simp only [List.map_cons, List.sum_cons, sumN, bs_len] at this ⊢
    omega
theorem join_core {P : Program} {f : FuncId} {w : World} {S : Nat → Prop} (hS : ∀ b, S b → b < w.heap.size)
    (h0 : ∀ (a : Option Addr) (c : Nat) (sep : ByteArray), Calls P f #[.slice a 0 c, .string sep] w fun e w' => e = .returned (.string ⟨#[]⟩) ∧ w' = w)
    (hI : ∀ (bk o c : Nat) (xs : List ByteArray) (sep : ByteArray), (∀ (j : Nat) x, xs[j]? = some x → w.cell? ⟨bk, o + j, none⟩ = some (.string x)) → bk < w.heap.size → xs.length ≤ 140737488355328 → xs.length ≤ c → (Lib.join (xs.map (·.data.toList)) sep.data.toList).length ≤ 140737488355328 →
      Calls P f #[.slice (some ⟨bk, o, none⟩) xs.length c, .string sep] w fun e w' => e = .returned (.string ⟨(Lib.join (xs.map (·.data.toList)) sep.data.toList).toArray⟩) ∧ Below w.heap.size w w')
    (xs : List ByteArray) (sep : ByteArray) (hp : pJoin xs sep) (A : Option Addr) (cap : Nat) (cs : List Value) (hcap : xs.length ≤ cap) (hcl : cs.length = xs.length * 1)
    (hA : 0 < xs.length * 1 → ∃ ad, A = some ad ∧ S ad.block ∧ ∀ (j : Nat) (u : Value), cs[j]? = some u → w.cell? (ad.add j) = some u)
    (hx : ∀ (i : Nat) (y : ByteArray), xs[i]? = some y → (cs.drop (i * 1)).take 1 = [.string y]) :
    Calls P f #[.slice A xs.length cap, .string sep] w fun e w' => e = .returned (.string (mJoin xs sep)) ∧ Below w.heap.size w w' := by
  obtain ⟨hp1, hp2, hp3⟩ := hp
  by_cases hn : xs.length = 0
  · have : xs = [] := List.length_eq_zero_iff.1 hn
    subst this
    refine (h0 A cap sep).mono fun e w' ⟨he, hw⟩ => ⟨he, ?_⟩
    rw [hw]; exact Below.refl _ _
  · obtain ⟨ad, rfl, hb, hcells⟩ := hA (by omega)
    have hget : ∀ (j : Nat) (y : ByteArray), xs[j]? = some y → w.cell? (ad.add j) = some (.string y) := fun j y hj => by
      refine hcells j _ ?_
      have := congrArg (·[0]?) (hx j y hj)
      simpa [List.getElem?_take, List.getElem?_drop] using this
    have hx0 : xs[0]? = some (xs[0]'(by omega)) := List.getElem?_eq_getElem (by omega)
    have hsp := World.cell?_spot (hget 0 _ hx0)
    have hadd : ∀ j, ad.add j = ⟨ad.block, ad.off + j, none⟩ := fun j => by
      have : ad.spot = none := by
        rw [addr_zero] at hsp; exact hsp
      obtain ⟨b, o, s⟩ := ad
      simp only at this
      subst this
      unfold Addr.add
      split
      · rename_i h; subst h; rfl
      · rfl
    have had : ad = ⟨ad.block, ad.off, none⟩ := by have := hadd 0; rw [addr_zero] at this; exact this
    have hjl : (Lib.join (xs.map (·.data.toList)) sep.data.toList).length ≤ 140737488355328 := by
      cases xs with
      | nil => simp at hn
      | cons y r =>
        have h6 := Lib.join_length (bs y) (r.map bs) (bs sep)
        have h7 := lens_sum (y :: r)
        have h8 : (bs sep).length ≤ 16 := by rw [bs_len]; exact hp3
        have h9 : (bs sep).length * (r.map bs).length ≤ 16 * r.length := by rw [List.length_map]; exact Nat.mul_le_mul_right _ h8
        have h10 : (Lib.join ((y :: r).map bs) (bs sep)).length ≤ 140737488355328 := by
          rw [List.map_cons, h6]
          rw [List.map_cons] at h7
          simp only [List.length_cons] at hp1
          omega
        exact h10
    rw [had]
    refine (hI ad.block ad.off cap xs sep (fun j y hj => by rw [← hadd j]; exact hget j y hj) (hS _ hb) (by omega) hcap hjl).mono fun e w' ⟨he, hbel⟩ => ⟨?_, hbel⟩
    rw [he, mJoin_lib]; rfl
def joinCt (e : TypeId) (f : FuncId) : Ct := { f, ps := [.v false .ro [.list e [.str]], .v false .ro [.str]], rs := [(false, [.str])], shared := false, pre := fun (x : List S × S) => pJoin x.1 x.2, F := fun (x : List S × S) => mJoin x.1 x.2 }
theorem join_row {w : World} {S : Nat → Prop} {e : TypeId} {p : Col} {xs : List ByteArray} {v : Value} (h : repL (roRow w S) (.list e [.str]) p (xs : List (dens [L.str])) v) :
    ∃ (A : Option Addr) (cap : Nat) (cs : List Value), v = .slice A xs.length cap ∧ xs.length ≤ cap ∧ cs.length = xs.length * 1 ∧ (0 < xs.length * 1 → ∃ ad, A = some ad ∧ S ad.block ∧ ∀ (j : Nat) (u : Value), cs[j]? = some u → w.cell? (ad.add j) = some u) ∧
      ∀ (i : Nat) (y : ByteArray), xs[i]? = some y → (cs.drop (i * 1)).take 1 = [.string y] := by
  simp only [repL] at h
  obtain ⟨cs, ⟨A, cap, hv, hcap, hA⟩, hcl, hx⟩ := h
  refine ⟨A, cap, cs, hv, hcap, hcl, hA, fun i y hi => ?_⟩
  have h5 := hx i y hi
  simp only [repLs, repL] at h5
  obtain ⟨v, hv, rfl⟩ := h5
  exact hv
theorem join_ct {P : Program} {e : TypeId} {f : FuncId} {w : World} (hf : FnIs P f)
    (h0 : ∀ (a : Option Addr) (c : Nat) (sep : ByteArray), Calls P f #[.slice a 0 c, .string sep] w fun e w' => e = .returned (.string ⟨#[]⟩) ∧ w' = w)
    (hI : ∀ (bk o c : Nat) (xs : List ByteArray) (sep : ByteArray), (∀ (j : Nat) x, xs[j]? = some x → w.cell? ⟨bk, o + j, none⟩ = some (.string x)) → bk < w.heap.size → xs.length ≤ 140737488355328 → xs.length ≤ c → (Lib.join (xs.map (·.data.toList)) sep.data.toList).length ≤ 140737488355328 →
      Calls P f #[.slice (some ⟨bk, o, none⟩) xs.length c, .string sep] w fun e w' => e = .returned (.string ⟨(Lib.join (xs.map (·.data.toList)) sep.data.toList).toArray⟩) ∧ Below w.heap.size w w') : CtAt P (joinCt e f) w := by
  refine ct_lib hf fun vals x S hS ha hp => ?_
  obtain ⟨v, vs', hv, h1, h2⟩ := args_v ha
  obtain ⟨u, us', rfl, h3, h4⟩ := args_v h2
  have h4 := args_e h4
  subst h4
  have h3 : u = .string x.2 := h3
  subst h3
  obtain ⟨A, cap, cs, rfl, hcap, hcl, hA, hx⟩ := join_row (xs := x.1) h1
  rw [arr_of hv]
  exact (join_core hS h0 hI x.1 x.2 hp A cap cs hcap hcl hA hx).mono fun e w' ⟨he, hb⟩ => ⟨[.string (mJoin x.1 x.2)], _, he, hb, Or.inl rfl, fun S' => res_str _⟩
end Go.Ev
end

section
/- impl.Lower: what its walk needs. -/
set_option linter.unusedVariables false
namespace Go.Ev
open Go Go.RowKit
/-- The row behind i steps. -/
def lowAt (s : S) (i : Nat) : List UInt8 := ((bs s).take i).map lowB ++ (bs s).drop i
theorem lowAt_len (s : S) (i : Nat) : (lowAt s i).length = s.size := by
  unfold lowAt
  rw [List.length_append, List.length_map, List.length_take, List.length_drop, bs_len]; omega
theorem lowAt_get (s : S) (i j : Nat) (h : j < s.size) : (lowAt s i)[j]? = some (if j < i then lowB (bs s)[j]! else (bs s)[j]!) := by
  have hl : j < (bs s).length := by rw [bs_len]; exact h
  unfold lowAt
  by_cases hj : j < i
  · rw [if_pos hj, List.getElem?_append_left (by simp; omega), List.getElem?_map, List.getElem?_take, if_pos hj, List.getElem?_eq_getElem hl, getElem!_pos (bs s) j hl]; rfl
  · rw [if_neg hj, List.getElem?_append_right (by simp; omega), List.getElem?_drop, List.length_map, List.length_take, show i + (j - min i (bs s).length) = j by omega, List.getElem?_eq_getElem hl, getElem!_pos (bs s) j hl]
/-- What the block holds, in a world. -/
def LowW (B : Nat) (s : S) (i : Nat) (w w' : World) : Prop :=
  Below B w w' ∧ ∀ j, j < s.size → w'.cell? ⟨B, j, none⟩ = some (.int .u8 (((if j < i then lowB (bs s)[j]! else (bs s)[j]!).toNat : Nat) : Int)) ∧ w'.frozen? ⟨B, j, none⟩ = false
theorem LowW.next {B i : Nat} {s : S} {w w' : World} (h : LowW B s i w w') (hi : i < s.size) {v : Int} (hv : v = ((lowB (bs s)[i]!).toNat : Int)) : LowW B s (i + 1) w (w'.setCell ⟨B, i, none⟩ (.int .u8 v)) := by
  refine ⟨h.1.setCell (Nat.le_refl _) _, fun j hj => ?_⟩
  by_cases e : j = i
  · subst e
    rw [World.cell?_setCell_same _ _ _ (h.2 j hj).1, hv, if_pos (by omega)]
    exact ⟨rfl, by rw [World.frozen?_setCell]; exact (h.2 j hj).2⟩
  · rw [World.cell?_setCell_other _ _ _ _ (by simp [e]), World.frozen?_setCell, (h.2 j hj).1]
    exact ⟨by simp only [show (j < i + 1) ↔ (j < i) by omega], (h.2 j hj).2⟩
theorem LowW.skip {B i : Nat} {s : S} {w w' : World} (h : LowW B s i w w') (hi : i < s.size) (hv : lowB (bs s)[i]! = (bs s)[i]!) : LowW B s (i + 1) w w' := by
  refine ⟨h.1, fun j hj => ?_⟩
  by_cases e : j = i
  · subst e
    have := h.2 j hj
    rw [if_neg (by omega)] at this
    rw [if_pos (by omega), hv]; exact this
  · rw [(h.2 j hj).1]
    exact ⟨by simp only [show (j < i + 1) ↔ (j < i) by omega], (h.2 j hj).2⟩
/-- '[]byte(s)'. -/
theorem low_new (P : Program) (src dst e : TypeId) (w : World) (s : S) (hs : P.underlying src = some .string) (hd : P.underlying dst = some (.slice e)) (he : P.underlying e = some (.int .u8)) :
    ∃ W1 cap, (convert src dst (.string s)).run P w = .ok (.slice (some ⟨w.heap.size, 0, none⟩) s.size cap) W1 ∧ LowW w.heap.size s 0 w W1 := by
  refine ⟨_, _, run_bytes_of_string w src dst e s hs hd he, (Below.refl _ _).drew.alloc (Nat.le_refl _) _, fun j hj => ?_⟩
  have h1 := bytesRow_at s (grownCap w s.size 0 e) j hj
  refine ⟨?_, ?_⟩
  · show (w.drew.alloc _).cell? ⟨w.drew.heap.size, j, none⟩ = _
    rw [World.cell?_alloc_mark, h1, if_neg (by omega)]
    have hl : j < (bs s).length := by rw [bs_len]; exact hj
    rw [getElem!_pos (bs s) j hl]; rfl
  · show (w.drew.alloc _).frozen? ⟨w.drew.heap.size, j, none⟩ = _
    rw [World.frozen?_alloc_mark]
    have hsz : s.size ≤ (bytesRow s (grownCap w s.size 0 e)).size := by simp [bytesRow]
    generalize (bytesRow s (grownCap w s.size 0 e)).size = n at hsz
    simp; omega
theorem low_byte (x : UInt8) : (65 ≤ x.toNat ∧ x.toNat ≤ 90 → IntKind.u8.wrap (IntKind.u8.wrap ((x.toNat : Int) + 97) - 65) = ((lowB x).toNat : Int)) ∧ (¬ (65 ≤ x.toNat ∧ x.toNat ≤ 90) → lowB x = x) := by
  refine ⟨fun h => ?_, fun h => by unfold lowB; rw [if_neg h]⟩
  unfold lowB; rw [if_pos h]
  have e : (x + 32).toNat = x.toNat + 32 := by rw [UInt8.toNat_add]; show (x.toNat + 32) % 256 = _; omega
  rw [e]
  have h1 : IntKind.u8.wrap ((x.toNat : Int) + 97) = (x.toNat : Int) + 97 := by rw [IntKind.wrap_u8]; omega
  rw [h1, IntKind.wrap_u8]; omega
theorem low_end (P : Program) (src dst e : TypeId) (B cap : Nat) (w w' : World) (s : S) (hs : P.underlying src = some (.slice e)) (he : P.underlying e = some (.int .u8)) (hd : P.underlying dst = some .string) (h : LowW B s s.size w w') :
    (convert src dst (.slice (some ⟨B, 0, none⟩) s.size cap)).run P w' = .ok (.string (mLower s)) w' := by
  have hl : ((bs s).map lowB).length = s.size := by rw [List.length_map, bs_len]
  have := run_convert_bytes_back (P := P) w' src dst e ⟨B, 0, none⟩ cap ((bs s).map lowB) hs he hd (fun j hj => by
    have hj' : j < s.size := by rw [hl] at hj; exact hj
    have hjb : j < (bs s).length := by rw [bs_len]; exact hj'
    have h1 := (h.2 j hj').1
    rw [if_pos hj', getElem!_pos (bs s) j hjb] at h1
    rw [show (⟨B, 0, none⟩ : Addr).add j = ⟨B, j, none⟩ by unfold Addr.add; split <;> simp_all]
    rw [h1, List.getElem_map])
  rw [hl] at this
  exact this
end Go.Ev
namespace Go.Ev
open Go.RowKit
def lowerCt (f : FuncId) : Ct := { f, ps := [.v false .ro [.str]], rs := [(false, [.str])], shared := false, pre := fun (x : S) => pLower x, F := fun (x : S) => mLower x }
theorem lower_ct {P : Program} {f : FuncId} {w : World} (hf : FnIs P f)
    (hI : ∀ s : ByteArray, s.size ≤ 1073741824 → Calls P f #[.string s] w fun e w' => e = .returned (.string (mLower s)) ∧ Below w.heap.size w w') : CtAt P (lowerCt f) w := by
  refine ct_lib hf fun vals x S hS ha hp => ?_
  obtain ⟨v, vs', hv, h1, h2⟩ := args_v ha
  have h2 := args_e h2
  subst h2
  have h1 : v = .string x := h1
  subst h1
  rw [arr_of hv]
  exact (hI x hp).mono fun e w' ⟨he, hb⟩ => ⟨[.string (mLower x)], _, he, hb, Or.inl rfl, fun S' => res_str _⟩
end Go.Ev
end

section
set_option linter.unusedVariables false
namespace Go.Proofs.YtlkhfjhnpedabaaGreatDoor.Ap
open Go Go.Ev Go.Proofs Go.RowKit
abbrev ls3 : List L := [.int .i64]
abbrev ls4 : List L := [.bool]
abbrev ls5 : List L := [.int .u8]
abbrev ls9 : List L := [.str]
abbrev ls22 : List L := [.list 37 [.int .i64, .int .i64, .list 120 [.str, .list 123 [.str, .str], .int .i64, .list 123 [.str, .str], .str, .int .i64, .int .i64, .bool], .int .i64]]
abbrev ls23 : List L := [.list 106 [.str, .int .i64]]
abbrev ls25 : List L := [.list 37 [.int .i64, .int .i64, .list 120 [.str, .list 123 [.str, .str], .int .i64, .list 123 [.str, .str], .str, .int .i64, .int .i64, .bool], .int .i64], .list 106 [.str, .int .i64]]
abbrev ls28 : List L := [.list 46 [.int .i64, .int .i64, .list 76 [.str, .list 126 [.str, .str], .int .i64, .list 126 [.str, .str], .str, .int .i64, .int .i64, .bool], .int .i64]]
abbrev ls29 : List L := [.list 79 [.str, .int .i64]]
abbrev ls31 : List L := [.list 46 [.int .i64, .int .i64, .list 76 [.str, .list 126 [.str, .str], .int .i64, .list 126 [.str, .str], .str, .int .i64, .int .i64, .bool], .int .i64], .list 79 [.str, .int .i64]]
abbrev ls35 : List L := [.list 120 [.str, .list 123 [.str, .str], .int .i64, .list 123 [.str, .str], .str, .int .i64, .int .i64, .bool]]
abbrev ls37 : List L := [.int .i64, .int .i64, .list 120 [.str, .list 123 [.str, .str], .int .i64, .list 123 [.str, .str], .str, .int .i64, .int .i64, .bool], .int .i64]
abbrev ls38 : List L := [.list 123 [.str, .str]]
abbrev ls40 : List L := [.str, .str, .list 123 [.str, .str], .str]
abbrev ls44 : List L := [.list 76 [.str, .list 126 [.str, .str], .int .i64, .list 126 [.str, .str], .str, .int .i64, .int .i64, .bool]]
abbrev ls46 : List L := [.int .i64, .int .i64, .list 76 [.str, .list 126 [.str, .str], .int .i64, .list 126 [.str, .str], .str, .int .i64, .int .i64, .bool], .int .i64]
abbrev ls48 : List L := [.list 126 [.str, .str]]
abbrev ls50 : List L := [.str, .str, .list 126 [.str, .str], .str]
abbrev ls58 : List L := [.int .i64, .list 123 [.str, .str], .str]
abbrev ls62 : List L := [.int .i64, .list 126 [.str, .str], .str]
abbrev ls74 : List L := [.str, .list 126 [.str, .str], .int .i64, .list 126 [.str, .str], .str, .int .i64, .int .i64]
abbrev ls76 : List L := [.str, .list 126 [.str, .str], .int .i64, .list 126 [.str, .str], .str, .int .i64, .int .i64, .bool]
abbrev ls79 : List L := [.str, .int .i64]
abbrev ls95 : List L := [.list 9 [.str]]
abbrev ls106 : List L := [.str, .int .i64]
abbrev ls118 : List L := [.str, .list 123 [.str, .str], .int .i64, .list 123 [.str, .str], .str, .int .i64, .int .i64]
abbrev ls120 : List L := [.str, .list 123 [.str, .str], .int .i64, .list 123 [.str, .str], .str, .int .i64, .int .i64, .bool]
abbrev ls123 : List L := [.str, .str]
abbrev ls126 : List L := [.str, .str]
abbrev ls133 : List L := [.list 3 [.int .i64]]
def tt : List (Nat × TI) := [
  (2, ⟨.sc, [.int .i64]⟩),
  (3, ⟨.sc, [.int .i64]⟩),
  (4, ⟨.sc, [.bool]⟩),
  (5, ⟨.sc, [.int .u8]⟩),
  (6, ⟨.sc, [.int .u8]⟩),
  (7, ⟨.st [(0, [.int .i64]), (1, [.int .i64]), (2, [.bool]), (3, [.int .u8])], [.int .i64, .int .i64, .bool, .int .u8]⟩),
  (8, ⟨.st [(0, [.int .i64]), (1, [.int .i64]), (2, [.bool]), (3, [.int .u8])], [.int .i64, .int .i64, .bool, .int .u8]⟩),
  (9, ⟨.sc, [.str]⟩),
  (10, ⟨.sc, [.str]⟩),
  (11, ⟨.sc, [.str]⟩),
  (12, ⟨.sc, [.int .u64]⟩),
  (13, ⟨.st [(0, [.str]), (1, [.int .u64])], [.str, .int .u64]⟩),
  (14, ⟨.st [(0, [.str]), (1, [.int .u64])], [.str, .int .u64]⟩),
  (21, ⟨.sc, [.int .i32]⟩),
  (22, ⟨.sl 37 [.int .i64, .int .i64, .list 120 [.str, .list 123 [.str, .str], .int .i64, .list 123 [.str, .str], .str, .int .i64, .int .i64, .bool], .int .i64] 48, [.list 37 [.int .i64, .int .i64, .list 120 [.str, .list 123 [.str, .str], .int .i64, .list 123 [.str, .str], .str, .int .i64, .int .i64, .bool], .int .i64]]⟩),
  (23, ⟨.sl 106 [.str, .int .i64] 24, [.list 106 [.str, .int .i64]]⟩),
  (24, ⟨.st [(0, [.list 37 [.int .i64, .int .i64, .list 120 [.str, .list 123 [.str, .str], .int .i64, .list 123 [.str, .str], .str, .int .i64, .int .i64, .bool], .int .i64]]), (1, [.list 106 [.str, .int .i64]])], [.list 37 [.int .i64, .int .i64, .list 120 [.str, .list 123 [.str, .str], .int .i64, .list 123 [.str, .str], .str, .int .i64, .int .i64, .bool], .int .i64], .list 106 [.str, .int .i64]]⟩),
  (25, ⟨.st [(0, [.list 37 [.int .i64, .int .i64, .list 120 [.str, .list 123 [.str, .str], .int .i64, .list 123 [.str, .str], .str, .int .i64, .int .i64, .bool], .int .i64]]), (1, [.list 106 [.str, .int .i64]])], [.list 37 [.int .i64, .int .i64, .list 120 [.str, .list 123 [.str, .str], .int .i64, .list 123 [.str, .str], .str, .int .i64, .int .i64, .bool], .int .i64], .list 106 [.str, .int .i64]]⟩),
  (28, ⟨.sl 46 [.int .i64, .int .i64, .list 76 [.str, .list 126 [.str, .str], .int .i64, .list 126 [.str, .str], .str, .int .i64, .int .i64, .bool], .int .i64] 48, [.list 46 [.int .i64, .int .i64, .list 76 [.str, .list 126 [.str, .str], .int .i64, .list 126 [.str, .str], .str, .int .i64, .int .i64, .bool], .int .i64]]⟩),
  (29, ⟨.sl 79 [.str, .int .i64] 24, [.list 79 [.str, .int .i64]]⟩),
  (30, ⟨.st [(0, [.list 46 [.int .i64, .int .i64, .list 76 [.str, .list 126 [.str, .str], .int .i64, .list 126 [.str, .str], .str, .int .i64, .int .i64, .bool], .int .i64]]), (1, [.list 79 [.str, .int .i64]])], [.list 46 [.int .i64, .int .i64, .list 76 [.str, .list 126 [.str, .str], .int .i64, .list 126 [.str, .str], .str, .int .i64, .int .i64, .bool], .int .i64], .list 79 [.str, .int .i64]]⟩),
  (31, ⟨.st [(0, [.list 46 [.int .i64, .int .i64, .list 76 [.str, .list 126 [.str, .str], .int .i64, .list 126 [.str, .str], .str, .int .i64, .int .i64, .bool], .int .i64]]), (1, [.list 79 [.str, .int .i64]])], [.list 46 [.int .i64, .int .i64, .list 76 [.str, .list 126 [.str, .str], .int .i64, .list 126 [.str, .str], .str, .int .i64, .int .i64, .bool], .int .i64], .list 79 [.str, .int .i64]]⟩),
  (35, ⟨.sl 120 [.str, .list 123 [.str, .str], .int .i64, .list 123 [.str, .str], .str, .int .i64, .int .i64, .bool] 112, [.list 120 [.str, .list 123 [.str, .str], .int .i64, .list 123 [.str, .str], .str, .int .i64, .int .i64, .bool]]⟩),
  (36, ⟨.st [(0, [.int .i64]), (1, [.int .i64]), (2, [.list 120 [.str, .list 123 [.str, .str], .int .i64, .list 123 [.str, .str], .str, .int .i64, .int .i64, .bool]]), (3, [.int .i64])], [.int .i64, .int .i64, .list 120 [.str, .list 123 [.str, .str], .int .i64, .list 123 [.str, .str], .str, .int .i64, .int .i64, .bool], .int .i64]⟩),
  (37, ⟨.st [(0, [.int .i64]), (1, [.int .i64]), (2, [.list 120 [.str, .list 123 [.str, .str], .int .i64, .list 123 [.str, .str], .str, .int .i64, .int .i64, .bool]]), (3, [.int .i64])], [.int .i64, .int .i64, .list 120 [.str, .list 123 [.str, .str], .int .i64, .list 123 [.str, .str], .str, .int .i64, .int .i64, .bool], .int .i64]⟩),
  (38, ⟨.sl 123 [.str, .str] 32, [.list 123 [.str, .str]]⟩),
  (39, ⟨.st [(0, [.str]), (1, [.str]), (2, [.list 123 [.str, .str]]), (3, [.str])], [.str, .str, .list 123 [.str, .str], .str]⟩),
  (40, ⟨.st [(0, [.str]), (1, [.str]), (2, [.list 123 [.str, .str]]), (3, [.str])], [.str, .str, .list 123 [.str, .str], .str]⟩),
  (44, ⟨.sl 76 [.str, .list 126 [.str, .str], .int .i64, .list 126 [.str, .str], .str, .int .i64, .int .i64, .bool] 112, [.list 76 [.str, .list 126 [.str, .str], .int .i64, .list 126 [.str, .str], .str, .int .i64, .int .i64, .bool]]⟩),
  (45, ⟨.st [(0, [.int .i64]), (1, [.int .i64]), (2, [.list 76 [.str, .list 126 [.str, .str], .int .i64, .list 126 [.str, .str], .str, .int .i64, .int .i64, .bool]]), (3, [.int .i64])], [.int .i64, .int .i64, .list 76 [.str, .list 126 [.str, .str], .int .i64, .list 126 [.str, .str], .str, .int .i64, .int .i64, .bool], .int .i64]⟩),
  (46, ⟨.st [(0, [.int .i64]), (1, [.int .i64]), (2, [.list 76 [.str, .list 126 [.str, .str], .int .i64, .list 126 [.str, .str], .str, .int .i64, .int .i64, .bool]]), (3, [.int .i64])], [.int .i64, .int .i64, .list 76 [.str, .list 126 [.str, .str], .int .i64, .list 126 [.str, .str], .str, .int .i64, .int .i64, .bool], .int .i64]⟩),
  (48, ⟨.sl 126 [.str, .str] 32, [.list 126 [.str, .str]]⟩),
  (49, ⟨.st [(0, [.str]), (1, [.str]), (2, [.list 126 [.str, .str]]), (3, [.str])], [.str, .str, .list 126 [.str, .str], .str]⟩),
  (50, ⟨.st [(0, [.str]), (1, [.str]), (2, [.list 126 [.str, .str]]), (3, [.str])], [.str, .str, .list 126 [.str, .str], .str]⟩),
  (57, ⟨.st [(0, [.int .i64]), (1, [.list 123 [.str, .str]]), (2, [.str])], [.int .i64, .list 123 [.str, .str], .str]⟩),
  (58, ⟨.st [(0, [.int .i64]), (1, [.list 123 [.str, .str]]), (2, [.str])], [.int .i64, .list 123 [.str, .str], .str]⟩),
  (61, ⟨.st [(0, [.int .i64]), (1, [.list 126 [.str, .str]]), (2, [.str])], [.int .i64, .list 126 [.str, .str], .str]⟩),
  (62, ⟨.st [(0, [.int .i64]), (1, [.list 126 [.str, .str]]), (2, [.str])], [.int .i64, .list 126 [.str, .str], .str]⟩),
  (73, ⟨.st [(0, [.str]), (1, [.list 126 [.str, .str]]), (2, [.int .i64, .list 126 [.str, .str], .str]), (5, [.int .i64]), (6, [.int .i64])], [.str, .list 126 [.str, .str], .int .i64, .list 126 [.str, .str], .str, .int .i64, .int .i64]⟩),
  (74, ⟨.st [(0, [.str]), (1, [.list 126 [.str, .str]]), (2, [.int .i64, .list 126 [.str, .str], .str]), (5, [.int .i64]), (6, [.int .i64])], [.str, .list 126 [.str, .str], .int .i64, .list 126 [.str, .str], .str, .int .i64, .int .i64]⟩),
  (75, ⟨.st [(0, [.str, .list 126 [.str, .str], .int .i64, .list 126 [.str, .str], .str, .int .i64, .int .i64]), (7, [.bool])], [.str, .list 126 [.str, .str], .int .i64, .list 126 [.str, .str], .str, .int .i64, .int .i64, .bool]⟩),
  (76, ⟨.st [(0, [.str, .list 126 [.str, .str], .int .i64, .list 126 [.str, .str], .str, .int .i64, .int .i64]), (7, [.bool])], [.str, .list 126 [.str, .str], .int .i64, .list 126 [.str, .str], .str, .int .i64, .int .i64, .bool]⟩),
  (78, ⟨.st [(0, [.str]), (1, [.int .i64])], [.str, .int .i64]⟩),
  (79, ⟨.st [(0, [.str]), (1, [.int .i64])], [.str, .int .i64]⟩),
  (95, ⟨.sl 9 [.str] 16, [.list 9 [.str]]⟩),
  (106, ⟨.st [(0, [.str]), (1, [.int .i64])], [.str, .int .i64]⟩),
  (117, ⟨.st [(0, [.str]), (1, [.list 123 [.str, .str]]), (2, [.int .i64, .list 123 [.str, .str], .str]), (5, [.int .i64]), (6, [.int .i64])], [.str, .list 123 [.str, .str], .int .i64, .list 123 [.str, .str], .str, .int .i64, .int .i64]⟩),
  (118, ⟨.st [(0, [.str]), (1, [.list 123 [.str, .str]]), (2, [.int .i64, .list 123 [.str, .str], .str]), (5, [.int .i64]), (6, [.int .i64])], [.str, .list 123 [.str, .str], .int .i64, .list 123 [.str, .str], .str, .int .i64, .int .i64]⟩),
  (119, ⟨.st [(0, [.str, .list 123 [.str, .str], .int .i64, .list 123 [.str, .str], .str, .int .i64, .int .i64]), (7, [.bool])], [.str, .list 123 [.str, .str], .int .i64, .list 123 [.str, .str], .str, .int .i64, .int .i64, .bool]⟩),
  (120, ⟨.st [(0, [.str, .list 123 [.str, .str], .int .i64, .list 123 [.str, .str], .str, .int .i64, .int .i64]), (7, [.bool])], [.str, .list 123 [.str, .str], .int .i64, .list 123 [.str, .str], .str, .int .i64, .int .i64, .bool]⟩),
  (122, ⟨.st [(0, [.str]), (1, [.str])], [.str, .str]⟩),
  (123, ⟨.st [(0, [.str]), (1, [.str])], [.str, .str]⟩),
  (126, ⟨.st [(0, [.str]), (1, [.str])], [.str, .str]⟩),
  (133, ⟨.sl 3 [.int .i64] 8, [.list 3 [.int .i64]]⟩),
  (137, ⟨.sl 139 [.str, .str] 32, [.list 139 [.str, .str]]⟩),
  (139, ⟨.st [(0, [.str]), (1, [.str])], [.str, .str]⟩),
  (152, ⟨.sl 5 [.int .u8] 1, [.list 5 [.int .u8]]⟩),
  (192, ⟨.sc, [.int .i64]⟩),
  (202, ⟨.sc, [.int .u64]⟩),
  (203, ⟨.sc, [.int .u64]⟩),
  (211, ⟨.st [(0, [.int .u8]), (1, [.int .u8])], [.int .u8, .int .u8]⟩),
  (212, ⟨.st [(0, [.int .u8]), (1, [.int .u8])], [.int .u8, .int .u8]⟩),
  (220, ⟨.sc, [.int .u32]⟩),
  (225, ⟨.st [(0, [.str])], [.str]⟩),
  (226, ⟨.st [(0, [.str])], [.str]⟩),
  (240, ⟨.sc, [.int .u8]⟩),
  (241, ⟨.sc, [.int .u8]⟩),
  (243, ⟨.sc, [.int .i32]⟩),
  (244, ⟨.sc, [.int .i32]⟩)]
theorem ttOk : ttB Tryz.prog tt = true := by kernel_rfl
theorem mixOk : Tryz.prog.follows .mixedOrders = true := by kernel_rfl
def J (_ : World) : Prop := True
theorem J_below {w w' : World} (h : J w) (_ : Below w.heap.size w w') : J w' := trivial
def Jn (n : Nat) (w : World) : Prop := ∃ w0 : World, w0.heap.size = n ∧ J w0 ∧ Below n w0 w
theorem Jn_J {n : Nat} {w : World} (h : Jn n w) : J w := by
  obtain ⟨w0, rfl, h1, h2⟩ := h
  exact J_below h1 h2
theorem Jn_below {n : Nat} {w w' : World} (h : Jn n w) (hb : Below n w w') : Jn n w' := by
  obtain ⟨w0, h0, h1, h2⟩ := h
  exact ⟨w0, h0, h1, h2.trans hb⟩
theorem Jn_of {w w' : World} (h : J w) (hb : Below w.heap.size w w') : Jn w.heap.size w' := ⟨w, rfl, h, hb⟩
noncomputable def E89 : Env := { tt, eqs := [], cts := [] }
theorem ok89 : EnvOk Tryz.prog E89 := ⟨ttOk, by kernel_rfl, rfl, mixOk⟩
theorem cs89 (w0 : World) (hJ : J w0) : EnvCts Tryz.prog E89 w0 w0.heap.size := by
  refine ⟨fun c hc => ?_, fun c hc => ?_⟩
  · cases hc
  · cases hc
noncomputable def ct89 : Ct := { f := 89, ps := [.v true .ro ls123, .v false .ro [.int .i64]], rs := [(false, [.int .i64])], shared := false, pre := fun (q : Fld × Int) => pSz q.1 q.2, F := fun (q : Fld × Int) => szF q.1 q.2 }
def st89 : List (SzStep Fld) := [.str (fun x : Fld => x.1), .str (fun x : Fld => x.2)]
theorem c89 (x : Fld) : szSum x st89 = cz x := by
  simp only [szSum, st89, cz_pair, cz_int, cz_bool, cz_str]
  all_goals omega
theorem w89 (x : Fld) (h : wd x) : szFine x st89 := by
  first | simp only [wd_pair] at h | skip
  simp only [szFine, st89, wd_pair, wf_wd]
  simp only [h, and_self]
theorem law89 : ∀ q : Fld × Int, pSz q.1 q.2 → szSt q.1 st89 q.2 (fun r => r = szF q.1 q.2) := fun q hq => szSt_holds q.1 st89 q.2 _ (w89 q.1 hq.1) hq.2.1 hq.2.2 (c89 q.1)
theorem all89 (w : World) (hJ : J w) : CtAt Tryz.prog ct89 w :=
  ct_by ok89 (cs89 w hJ) Tryz.func89 (by kernel_rfl) (H := (hint [])) law89 (by kernel_rfl)
noncomputable def E47 : Env := { tt, eqs := [], cts := [ct89] }
theorem ok47 : EnvOk Tryz.prog E47 := ⟨ttOk, by kernel_rfl, rfl, mixOk⟩
theorem cs47 (w0 : World) (hJ : J w0) : EnvCts Tryz.prog E47 w0 w0.heap.size := by
  refine ⟨fun c hc => ?_, fun c hc => ?_⟩
  · rcases List.mem_cons.1 hc with rfl | hc
    · exact fun w hb => all89 w (J_below hJ hb)
    cases hc
  · cases hc
noncomputable def ct47 : Ct := { f := 47, ps := [.v false .ro ls38, .v false .ro [.int .i64]], rs := [(false, [.int .i64])], shared := false, pre := fun (q : (List Fld) × Int) => pSz q.1 q.2, F := fun (q : (List Fld) × Int) => szF q.1 q.2 }
theorem law47 : ∀ q : (List Fld) × Int, pSz q.1 q.2 → szS (α := Fld) Dft.dft (fun y k => pSz y k) (fun y k => szF y k) q.1 q.2 (fun r => r = szF q.1 q.2) := fun q hq => szS_holds (α := Fld) Dft.dft cz wd q.1 q.2 hq.1.1 hq.1.2 hq.2.1 hq.2.2
theorem all47 (w : World) (hJ : J w) : CtAt Tryz.prog ct47 w :=
  ct_by ok47 (cs47 w hJ) Tryz.func47 (by kernel_rfl) (H := (hint [(5, [.val 1 (.int .i64), .val 5 (.int .i64)])])) law47 (by kernel_rfl)
noncomputable def E23 : Env := { tt, eqs := [], cts := [ct47] }
theorem ok23 : EnvOk Tryz.prog E23 := ⟨ttOk, by kernel_rfl, rfl, mixOk⟩
theorem cs23 (w0 : World) (hJ : J w0) : EnvCts Tryz.prog E23 w0 w0.heap.size := by
  refine ⟨fun c hc => ?_, fun c hc => ?_⟩
  · rcases List.mem_cons.1 hc with rfl | hc
    · exact fun w hb => all47 w (J_below hJ hb)
    cases hc
  · cases hc
noncomputable def ct23 : Ct := { f := 23, ps := [.v true .ro ls58, .v false .ro [.int .i64]], rs := [(false, [.int .i64])], shared := false, pre := fun (q : Rsp × Int) => pSz q.1 q.2, F := fun (q : Rsp × Int) => szF q.1 q.2 }
def st23 : List (SzStep Rsp) := [.call (fun x : Rsp => wd (x.2.1 : (List Fld))) (fun x : Rsp => cz (x.2.1 : (List Fld))), .str (fun x : Rsp => x.2.2)]
theorem c23 (x : Rsp) : szSum x st23 = cz x := by
  simp only [szSum, st23, cz_pair, cz_int, cz_bool, cz_str]
  all_goals omega
theorem w23 (x : Rsp) (h : wd x) : szFine x st23 := by
  first | simp only [wd_pair] at h | skip
  simp only [szFine, st23, wd_pair, wf_wd]
  simp only [h, and_self]
theorem law23 : ∀ q : Rsp × Int, pSz q.1 q.2 → szSt q.1 st23 q.2 (fun r => r = szF q.1 q.2) := fun q hq => szSt_holds q.1 st23 q.2 _ (w23 q.1 hq.1) hq.2.1 hq.2.2 (c23 q.1)
theorem all23 (w : World) (hJ : J w) : CtAt Tryz.prog ct23 w :=
  ct_by ok23 (cs23 w hJ) Tryz.func23 (by kernel_rfl) (H := (hint [])) law23 (by kernel_rfl)
noncomputable def E119 : Env := { tt, eqs := [], cts := [ct47, ct23] }
theorem ok119 : EnvOk Tryz.prog E119 := ⟨ttOk, by kernel_rfl, rfl, mixOk⟩
theorem cs119 (w0 : World) (hJ : J w0) : EnvCts Tryz.prog E119 w0 w0.heap.size := by
  refine ⟨fun c hc => ?_, fun c hc => ?_⟩
  · rcases List.mem_cons.1 hc with rfl | hc
    · exact fun w hb => all47 w (J_below hJ hb)
    rcases List.mem_cons.1 hc with rfl | hc
    · exact fun w hb => all23 w (J_below hJ hb)
    cases hc
  · cases hc
noncomputable def ct119 : Ct := { f := 119, ps := [.v true .ro ls118, .v false .ro [.int .i64]], rs := [(false, [.int .i64])], shared := false, pre := fun (q : Sto × Int) => pSz q.1 q.2, F := fun (q : Sto × Int) => szF q.1 q.2 }
def st119 : List (SzStep Sto) := [.str (fun x : Sto => x.1), .call (fun x : Sto => wd (x.2.1 : (List Fld))) (fun x : Sto => cz (x.2.1 : (List Fld))), .call (fun x : Sto => wd ((x.2.2.1, x.2.2.2.1, x.2.2.2.2.1) : Rsp)) (fun x : Sto => cz ((x.2.2.1, x.2.2.2.1, x.2.2.2.2.1) : Rsp))]
theorem c119 (x : Sto) : szSum x st119 = cz x := by
  simp only [szSum, st119, cz_pair, cz_int, cz_bool, cz_str]
  all_goals omega
theorem w119 (x : Sto) (h : wd x) : szFine x st119 := by
  first | simp only [wd_pair] at h | skip
  simp only [szFine, st119, wd_pair, wf_wd]
  simp only [h, and_self]
theorem law119 : ∀ q : Sto × Int, pSz q.1 q.2 → szSt q.1 st119 q.2 (fun r => r = szF q.1 q.2) := fun q hq => szSt_holds q.1 st119 q.2 _ (w119 q.1 hq.1) hq.2.1 hq.2.2 (c119 q.1)
theorem all119 (w : World) (hJ : J w) : CtAt Tryz.prog ct119 w :=
  ct_by ok119 (cs119 w hJ) Tryz.func119 (by kernel_rfl) (H := (hint [])) law119 (by kernel_rfl)
noncomputable def E88 : Env := { tt, eqs := [], cts := [ct119] }
theorem ok88 : EnvOk Tryz.prog E88 := ⟨ttOk, by kernel_rfl, rfl, mixOk⟩
theorem cs88 (w0 : World) (hJ : J w0) : EnvCts Tryz.prog E88 w0 w0.heap.size := by
  refine ⟨fun c hc => ?_, fun c hc => ?_⟩
  · rcases List.mem_cons.1 hc with rfl | hc
    · exact fun w hb => all119 w (J_below hJ hb)
    cases hc
  · cases hc
noncomputable def ct88 : Ct := { f := 88, ps := [.v true .ro ls120, .v false .ro [.int .i64]], rs := [(false, [.int .i64])], shared := false, pre := fun (q : Slt × Int) => pSz q.1 q.2, F := fun (q : Slt × Int) => szF q.1 q.2 }
def st88 : List (SzStep Slt) := [.call (fun x : Slt => wd ((x.1, x.2.1, x.2.2.1, x.2.2.2.1, x.2.2.2.2.1, x.2.2.2.2.2.1, x.2.2.2.2.2.2.1) : Sto)) (fun x : Slt => cz ((x.1, x.2.1, x.2.2.1, x.2.2.2.1, x.2.2.2.2.1, x.2.2.2.2.2.1, x.2.2.2.2.2.2.1) : Sto))]
theorem c88 (x : Slt) : szSum x st88 = cz x := by
  simp only [szSum, st88, cz_pair, cz_int, cz_bool, cz_str]
  all_goals omega
theorem w88 (x : Slt) (h : wd x) : szFine x st88 := by
  first | simp only [wd_pair] at h | skip
  simp only [szFine, st88, wd_pair, wf_wd]
  simp only [h, and_self]
theorem law88 : ∀ q : Slt × Int, pSz q.1 q.2 → szSt q.1 st88 q.2 (fun r => r = szF q.1 q.2) := fun q hq => szSt_holds q.1 st88 q.2 _ (w88 q.1 hq.1) hq.2.1 hq.2.2 (c88 q.1)
theorem all88 (w : World) (hJ : J w) : CtAt Tryz.prog ct88 w :=
  ct_by ok88 (cs88 w hJ) Tryz.func88 (by kernel_rfl) (H := (hint [])) law88 (by kernel_rfl)
noncomputable def E46 : Env := { tt, eqs := [], cts := [ct88] }
theorem ok46 : EnvOk Tryz.prog E46 := ⟨ttOk, by kernel_rfl, rfl, mixOk⟩
theorem cs46 (w0 : World) (hJ : J w0) : EnvCts Tryz.prog E46 w0 w0.heap.size := by
  refine ⟨fun c hc => ?_, fun c hc => ?_⟩
  · rcases List.mem_cons.1 hc with rfl | hc
    · exact fun w hb => all88 w (J_below hJ hb)
    cases hc
  · cases hc
noncomputable def ct46 : Ct := { f := 46, ps := [.v false .ro ls35, .v false .ro [.int .i64]], rs := [(false, [.int .i64])], shared := false, pre := fun (q : (List Slt) × Int) => pSz q.1 q.2, F := fun (q : (List Slt) × Int) => szF q.1 q.2 }
theorem law46 : ∀ q : (List Slt) × Int, pSz q.1 q.2 → szS (α := Slt) Dft.dft (fun y k => pSz y k) (fun y k => szF y k) q.1 q.2 (fun r => r = szF q.1 q.2) := fun q hq => szS_holds (α := Slt) Dft.dft cz wd q.1 q.2 hq.1.1 hq.1.2 hq.2.1 hq.2.2
theorem all46 (w : World) (hJ : J w) : CtAt Tryz.prog ct46 w :=
  ct_by ok46 (cs46 w hJ) Tryz.func46 (by kernel_rfl) (H := (hint [(5, [.val 1 (.int .i64), .val 5 (.int .i64)])])) law46 (by kernel_rfl)
noncomputable def E13 : Env := { tt, eqs := [], cts := [ct46] }
theorem ok13 : EnvOk Tryz.prog E13 := ⟨ttOk, by kernel_rfl, rfl, mixOk⟩
theorem cs13 (w0 : World) (hJ : J w0) : EnvCts Tryz.prog E13 w0 w0.heap.size := by
  refine ⟨fun c hc => ?_, fun c hc => ?_⟩
  · rcases List.mem_cons.1 hc with rfl | hc
    · exact fun w hb => all46 w (J_below hJ hb)
    cases hc
  · cases hc
noncomputable def ct13 : Ct := { f := 13, ps := [.v true .ro ls37, .v false .ro [.int .i64]], rs := [(false, [.int .i64])], shared := false, pre := fun (q : Shd × Int) => pSz q.1 q.2, F := fun (q : Shd × Int) => szF q.1 q.2 }
def st13 : List (SzStep Shd) := [.call (fun x : Shd => wd (x.2.2.1 : (List Slt))) (fun x : Shd => cz (x.2.2.1 : (List Slt)))]
theorem c13 (x : Shd) : szSum x st13 = cz x := by
  simp only [szSum, st13, cz_pair, cz_int, cz_bool, cz_str]
  all_goals omega
theorem w13 (x : Shd) (h : wd x) : szFine x st13 := by
  first | simp only [wd_pair] at h | skip
  simp only [szFine, st13, wd_pair, wf_wd]
  simp only [h, and_self]
theorem law13 : ∀ q : Shd × Int, pSz q.1 q.2 → szSt q.1 st13 q.2 (fun r => r = szF q.1 q.2) := fun q hq => szSt_holds q.1 st13 q.2 _ (w13 q.1 hq.1) hq.2.1 hq.2.2 (c13 q.1)
theorem all13 (w : World) (hJ : J w) : CtAt Tryz.prog ct13 w :=
  ct_by ok13 (cs13 w hJ) Tryz.func13 (by kernel_rfl) (H := (hint [])) law13 (by kernel_rfl)
noncomputable def E30 : Env := { tt, eqs := [], cts := [ct13] }
theorem ok30 : EnvOk Tryz.prog E30 := ⟨ttOk, by kernel_rfl, rfl, mixOk⟩
theorem cs30 (w0 : World) (hJ : J w0) : EnvCts Tryz.prog E30 w0 w0.heap.size := by
  refine ⟨fun c hc => ?_, fun c hc => ?_⟩
  · rcases List.mem_cons.1 hc with rfl | hc
    · exact fun w hb => all13 w (J_below hJ hb)
    cases hc
  · cases hc
noncomputable def ct30 : Ct := { f := 30, ps := [.v false .ro ls22, .v false .ro [.int .i64]], rs := [(false, [.int .i64])], shared := false, pre := fun (q : (List Shd) × Int) => pSz q.1 q.2, F := fun (q : (List Shd) × Int) => szF q.1 q.2 }
theorem law30 : ∀ q : (List Shd) × Int, pSz q.1 q.2 → szS (α := Shd) Dft.dft (fun y k => pSz y k) (fun y k => szF y k) q.1 q.2 (fun r => r = szF q.1 q.2) := fun q hq => szS_holds (α := Shd) Dft.dft cz wd q.1 q.2 hq.1.1 hq.1.2 hq.2.1 hq.2.2
theorem all30 (w : World) (hJ : J w) : CtAt Tryz.prog ct30 w :=
  ct_by ok30 (cs30 w hJ) Tryz.func30 (by kernel_rfl) (H := (hint [(5, [.val 1 (.int .i64), .val 5 (.int .i64)])])) law30 (by kernel_rfl)
noncomputable def E74 : Env := { tt, eqs := [], cts := [] }
theorem ok74 : EnvOk Tryz.prog E74 := ⟨ttOk, by kernel_rfl, rfl, mixOk⟩
theorem cs74 (w0 : World) (hJ : J w0) : EnvCts Tryz.prog E74 w0 w0.heap.size := by
  refine ⟨fun c hc => ?_, fun c hc => ?_⟩
  · cases hc
  · cases hc
noncomputable def ct74 : Ct := { f := 74, ps := [.v true .ro ls106, .v false .ro [.int .i64]], rs := [(false, [.int .i64])], shared := false, pre := fun (q : Gen × Int) => pSz q.1 q.2, F := fun (q : Gen × Int) => szF q.1 q.2 }
def st74 : List (SzStep Gen) := [.str (fun x : Gen => x.1)]
theorem c74 (x : Gen) : szSum x st74 = cz x := by
  simp only [szSum, st74, cz_pair, cz_int, cz_bool, cz_str]
  all_goals omega
theorem w74 (x : Gen) (h : wd x) : szFine x st74 := by
  first | simp only [wd_pair] at h | skip
  simp only [szFine, st74, wd_pair, wf_wd]
  simp only [h, and_self]
theorem law74 : ∀ q : Gen × Int, pSz q.1 q.2 → szSt q.1 st74 q.2 (fun r => r = szF q.1 q.2) := fun q hq => szSt_holds q.1 st74 q.2 _ (w74 q.1 hq.1) hq.2.1 hq.2.2 (c74 q.1)
theorem all74 (w : World) (hJ : J w) : CtAt Tryz.prog ct74 w :=
  ct_by ok74 (cs74 w hJ) Tryz.func74 (by kernel_rfl) (H := (hint [])) law74 (by kernel_rfl)
noncomputable def E31 : Env := { tt, eqs := [], cts := [ct74] }
theorem ok31 : EnvOk Tryz.prog E31 := ⟨ttOk, by kernel_rfl, rfl, mixOk⟩
theorem cs31 (w0 : World) (hJ : J w0) : EnvCts Tryz.prog E31 w0 w0.heap.size := by
  refine ⟨fun c hc => ?_, fun c hc => ?_⟩
  · rcases List.mem_cons.1 hc with rfl | hc
    · exact fun w hb => all74 w (J_below hJ hb)
    cases hc
  · cases hc
noncomputable def ct31 : Ct := { f := 31, ps := [.v false .ro ls23, .v false .ro [.int .i64]], rs := [(false, [.int .i64])], shared := false, pre := fun (q : (List Gen) × Int) => pSz q.1 q.2, F := fun (q : (List Gen) × Int) => szF q.1 q.2 }
theorem law31 : ∀ q : (List Gen) × Int, pSz q.1 q.2 → szS (α := Gen) Dft.dft (fun y k => pSz y k) (fun y k => szF y k) q.1 q.2 (fun r => r = szF q.1 q.2) := fun q hq => szS_holds (α := Gen) Dft.dft cz wd q.1 q.2 hq.1.1 hq.1.2 hq.2.1 hq.2.2
theorem all31 (w : World) (hJ : J w) : CtAt Tryz.prog ct31 w :=
  ct_by ok31 (cs31 w hJ) Tryz.func31 (by kernel_rfl) (H := (hint [(5, [.val 1 (.int .i64), .val 5 (.int .i64)])])) law31 (by kernel_rfl)
noncomputable def E8 : Env := { tt, eqs := [], cts := [ct30, ct31] }
theorem ok8 : EnvOk Tryz.prog E8 := ⟨ttOk, by kernel_rfl, rfl, mixOk⟩
theorem cs8 (w0 : World) (hJ : J w0) : EnvCts Tryz.prog E8 w0 w0.heap.size := by
  refine ⟨fun c hc => ?_, fun c hc => ?_⟩
  · rcases List.mem_cons.1 hc with rfl | hc
    · exact fun w hb => all30 w (J_below hJ hb)
    rcases List.mem_cons.1 hc with rfl | hc
    · exact fun w hb => all31 w (J_below hJ hb)
    cases hc
  · cases hc
noncomputable def ct8 : Ct := { f := 8, ps := [.v true .ro ls25, .v false .ro [.int .i64]], rs := [(false, [.int .i64])], shared := false, pre := fun (q : Cch × Int) => pSz q.1 q.2, F := fun (q : Cch × Int) => szF q.1 q.2 }
def st8 : List (SzStep Cch) := [.call (fun x : Cch => wd (x.1 : (List Shd))) (fun x : Cch => cz (x.1 : (List Shd))), .call (fun x : Cch => wd (x.2 : (List Gen))) (fun x : Cch => cz (x.2 : (List Gen)))]
theorem c8 (x : Cch) : szSum x st8 = cz x := by
  simp only [szSum, st8, cz_pair, cz_int, cz_bool, cz_str]
  all_goals omega
theorem w8 (x : Cch) (h : wd x) : szFine x st8 := by
  first | simp only [wd_pair] at h | skip
  simp only [szFine, st8, wd_pair, wf_wd]
  simp only [h, and_self]
theorem law8 : ∀ q : Cch × Int, pSz q.1 q.2 → szSt q.1 st8 q.2 (fun r => r = szF q.1 q.2) := fun q hq => szSt_holds q.1 st8 q.2 _ (w8 q.1 hq.1) hq.2.1 hq.2.2 (c8 q.1)
theorem all8 (w : World) (hJ : J w) : CtAt Tryz.prog ct8 w :=
  ct_by ok8 (cs8 w hJ) Tryz.func8 (by kernel_rfl) (H := (hint [])) law8 (by kernel_rfl)
noncomputable def E93 : Env := { tt, eqs := [], cts := [] }
theorem ok93 : EnvOk Tryz.prog E93 := ⟨ttOk, by kernel_rfl, rfl, mixOk⟩
theorem cs93 (w0 : World) (hJ : J w0) : EnvCts Tryz.prog E93 w0 w0.heap.size := by
  refine ⟨fun c hc => ?_, fun c hc => ?_⟩
  · cases hc
  · cases hc
noncomputable def ct93 : Ct := { f := 93, ps := [.v true .ro ls123], rs := [(true, ls126)], shared := false, pre := fun (x : Fld) => pTo x, F := fun (x : Fld) => toF x }
theorem law93 : ∀ q : Fld, pTo q → conj [] (q = toF q) := fun q hq => rfl
theorem all93 (w : World) (hJ : J w) : CtAt Tryz.prog ct93 w :=
  ct_by ok93 (cs93 w hJ) Tryz.func93 (by kernel_rfl) (H := (hint [])) law93 (by kernel_rfl)
noncomputable def E50 : Env := { tt, eqs := [], cts := [ct93] }
theorem ok50 : EnvOk Tryz.prog E50 := ⟨ttOk, by kernel_rfl, rfl, mixOk⟩
theorem cs50 (w0 : World) (hJ : J w0) : EnvCts Tryz.prog E50 w0 w0.heap.size := by
  refine ⟨fun c hc => ?_, fun c hc => ?_⟩
  · rcases List.mem_cons.1 hc with rfl | hc
    · exact fun w hb => all93 w (J_below hJ hb)
    cases hc
  · cases hc
noncomputable def ct50 : Ct := { f := 50, ps := [.v false .ro ls38], rs := [(false, ls48)], shared := false, pre := fun (x : (List Fld)) => pTo x, F := fun (x : (List Fld)) => toF x }
theorem law50 : ∀ q : (List Fld), pTo q → toS (α := Fld) Dft.dft 32 (fun y => pTo y) q (fun r => r = toF q) := fun q hq => toS_holds (α := Fld) Dft.dft 32 (fun y => pTo y) q (md_len' hq) (by omega) (fun i a h => md_mem hq (List.mem_of_getElem? h)) rfl
theorem all50 (w : World) (hJ : J w) : CtAt Tryz.prog ct50 w :=
  ct_by ok50 (cs50 w hJ) Tryz.func50 (by kernel_rfl) (H := (hint [(3, [.reg 3 126 ls126 true, .val 4 (.int .i64)])])) law50 (by kernel_rfl)
noncomputable def E25 : Env := { tt, eqs := [], cts := [ct50] }
theorem ok25 : EnvOk Tryz.prog E25 := ⟨ttOk, by kernel_rfl, rfl, mixOk⟩
theorem cs25 (w0 : World) (hJ : J w0) : EnvCts Tryz.prog E25 w0 w0.heap.size := by
  refine ⟨fun c hc => ?_, fun c hc => ?_⟩
  · rcases List.mem_cons.1 hc with rfl | hc
    · exact fun w hb => all50 w (J_below hJ hb)
    cases hc
  · cases hc
noncomputable def ct25 : Ct := { f := 25, ps := [.v true .ro ls58], rs := [(true, ls62)], shared := false, pre := fun (x : Rsp) => pTo x, F := fun (x : Rsp) => toF x }
theorem law25 : ∀ q : Rsp, pTo q → conj [pTo (q.2.1 : (List Fld))] (q = toF q) := fun q hq => ⟨(czh (czt hq)), rfl⟩
theorem all25 (w : World) (hJ : J w) : CtAt Tryz.prog ct25 w :=
  ct_by ok25 (cs25 w hJ) Tryz.func25 (by kernel_rfl) (H := (hint [])) law25 (by kernel_rfl)
noncomputable def E122 : Env := { tt, eqs := [], cts := [ct50, ct25] }
theorem ok122 : EnvOk Tryz.prog E122 := ⟨ttOk, by kernel_rfl, rfl, mixOk⟩
theorem cs122 (w0 : World) (hJ : J w0) : EnvCts Tryz.prog E122 w0 w0.heap.size := by
  refine ⟨fun c hc => ?_, fun c hc => ?_⟩
  · rcases List.mem_cons.1 hc with rfl | hc
    · exact fun w hb => all50 w (J_below hJ hb)
    rcases List.mem_cons.1 hc with rfl | hc
    · exact fun w hb => all25 w (J_below hJ hb)
    cases hc
  · cases hc
noncomputable def ct122 : Ct := { f := 122, ps := [.v true .ro ls118], rs := [(true, ls74)], shared := false, pre := fun (x : Sto) => pTo x, F := fun (x : Sto) => toF x }
theorem law122 : ∀ q : Sto, pTo q → conj [pTo (q.2.1 : (List Fld)), pTo ((q.2.2.1, q.2.2.2.1, q.2.2.2.2.1) : Rsp)] (q = toF q) := fun q hq => ⟨(czh (czt hq)), (czm3 (czt (czt hq))), rfl⟩
theorem all122 (w : World) (hJ : J w) : CtAt Tryz.prog ct122 w :=
  ct_by ok122 (cs122 w hJ) Tryz.func122 (by kernel_rfl) (H := (hint [])) law122 (by kernel_rfl)
noncomputable def E92 : Env := { tt, eqs := [], cts := [ct122] }
theorem ok92 : EnvOk Tryz.prog E92 := ⟨ttOk, by kernel_rfl, rfl, mixOk⟩
theorem cs92 (w0 : World) (hJ : J w0) : EnvCts Tryz.prog E92 w0 w0.heap.size := by
  refine ⟨fun c hc => ?_, fun c hc => ?_⟩
  · rcases List.mem_cons.1 hc with rfl | hc
    · exact fun w hb => all122 w (J_below hJ hb)
    cases hc
  · cases hc
noncomputable def ct92 : Ct := { f := 92, ps := [.v true .ro ls120], rs := [(true, ls76)], shared := false, pre := fun (x : Slt) => pTo x, F := fun (x : Slt) => toF x }
theorem law92 : ∀ q : Slt, pTo q → conj [pTo ((q.1, q.2.1, q.2.2.1, q.2.2.2.1, q.2.2.2.2.1, q.2.2.2.2.2.1, q.2.2.2.2.2.2.1) : Sto)] (q = toF q) := fun q hq => ⟨(czm7 hq), rfl⟩
theorem all92 (w : World) (hJ : J w) : CtAt Tryz.prog ct92 w :=
  ct_by ok92 (cs92 w hJ) Tryz.func92 (by kernel_rfl) (H := (hint [])) law92 (by kernel_rfl)
noncomputable def E49 : Env := { tt, eqs := [], cts := [ct92] }
theorem ok49 : EnvOk Tryz.prog E49 := ⟨ttOk, by kernel_rfl, rfl, mixOk⟩
theorem cs49 (w0 : World) (hJ : J w0) : EnvCts Tryz.prog E49 w0 w0.heap.size := by
  refine ⟨fun c hc => ?_, fun c hc => ?_⟩
  · rcases List.mem_cons.1 hc with rfl | hc
    · exact fun w hb => all92 w (J_below hJ hb)
    cases hc
  · cases hc
noncomputable def ct49 : Ct := { f := 49, ps := [.v false .ro ls35], rs := [(false, ls44)], shared := false, pre := fun (x : (List Slt)) => pTo x, F := fun (x : (List Slt)) => toF x }
theorem law49 : ∀ q : (List Slt), pTo q → toS (α := Slt) Dft.dft 112 (fun y => pTo y) q (fun r => r = toF q) := fun q hq => toS_holds (α := Slt) Dft.dft 112 (fun y => pTo y) q (md_len' hq) (by omega) (fun i a h => md_mem hq (List.mem_of_getElem? h)) rfl
theorem all49 (w : World) (hJ : J w) : CtAt Tryz.prog ct49 w :=
  ct_by ok49 (cs49 w hJ) Tryz.func49 (by kernel_rfl) (H := (hint [(3, [.reg 3 76 ls76 true, .val 4 (.int .i64)])])) law49 (by kernel_rfl)
noncomputable def E16 : Env := { tt, eqs := [], cts := [ct49] }
theorem ok16 : EnvOk Tryz.prog E16 := ⟨ttOk, by kernel_rfl, rfl, mixOk⟩
theorem cs16 (w0 : World) (hJ : J w0) : EnvCts Tryz.prog E16 w0 w0.heap.size := by
  refine ⟨fun c hc => ?_, fun c hc => ?_⟩
  · rcases List.mem_cons.1 hc with rfl | hc
    · exact fun w hb => all49 w (J_below hJ hb)
    cases hc
  · cases hc
noncomputable def ct16 : Ct := { f := 16, ps := [.v true .ro ls37], rs := [(true, ls46)], shared := false, pre := fun (x : Shd) => pTo x, F := fun (x : Shd) => toF x }
theorem law16 : ∀ q : Shd, pTo q → conj [pTo (q.2.2.1 : (List Slt))] (q = toF q) := fun q hq => ⟨(czh (czt (czt hq))), rfl⟩
theorem all16 (w : World) (hJ : J w) : CtAt Tryz.prog ct16 w :=
  ct_by ok16 (cs16 w hJ) Tryz.func16 (by kernel_rfl) (H := (hint [])) law16 (by kernel_rfl)
noncomputable def E36 : Env := { tt, eqs := [], cts := [ct16] }
theorem ok36 : EnvOk Tryz.prog E36 := ⟨ttOk, by kernel_rfl, rfl, mixOk⟩
theorem cs36 (w0 : World) (hJ : J w0) : EnvCts Tryz.prog E36 w0 w0.heap.size := by
  refine ⟨fun c hc => ?_, fun c hc => ?_⟩
  · rcases List.mem_cons.1 hc with rfl | hc
    · exact fun w hb => all16 w (J_below hJ hb)
    cases hc
  · cases hc
noncomputable def ct36 : Ct := { f := 36, ps := [.v false .ro ls22], rs := [(false, ls28)], shared := false, pre := fun (x : (List Shd)) => pTo x, F := fun (x : (List Shd)) => toF x }
theorem law36 : ∀ q : (List Shd), pTo q → toS (α := Shd) Dft.dft 48 (fun y => pTo y) q (fun r => r = toF q) := fun q hq => toS_holds (α := Shd) Dft.dft 48 (fun y => pTo y) q (md_len' hq) (by omega) (fun i a h => md_mem hq (List.mem_of_getElem? h)) rfl
theorem all36 (w : World) (hJ : J w) : CtAt Tryz.prog ct36 w :=
  ct_by ok36 (cs36 w hJ) Tryz.func36 (by kernel_rfl) (H := (hint [(3, [.reg 3 46 ls46 true, .val 4 (.int .i64)])])) law36 (by kernel_rfl)
noncomputable def E79 : Env := { tt, eqs := [], cts := [] }
theorem ok79 : EnvOk Tryz.prog E79 := ⟨ttOk, by kernel_rfl, rfl, mixOk⟩
theorem cs79 (w0 : World) (hJ : J w0) : EnvCts Tryz.prog E79 w0 w0.heap.size := by
  refine ⟨fun c hc => ?_, fun c hc => ?_⟩
  · cases hc
  · cases hc
noncomputable def ct79 : Ct := { f := 79, ps := [.v true .ro ls106], rs := [(true, ls79)], shared := false, pre := fun (x : Gen) => pTo x, F := fun (x : Gen) => toF x }
theorem law79 : ∀ q : Gen, pTo q → conj [] (q = toF q) := fun q hq => rfl
theorem all79 (w : World) (hJ : J w) : CtAt Tryz.prog ct79 w :=
  ct_by ok79 (cs79 w hJ) Tryz.func79 (by kernel_rfl) (H := (hint [])) law79 (by kernel_rfl)
noncomputable def E37 : Env := { tt, eqs := [], cts := [ct79] }
theorem ok37 : EnvOk Tryz.prog E37 := ⟨ttOk, by kernel_rfl, rfl, mixOk⟩
theorem cs37 (w0 : World) (hJ : J w0) : EnvCts Tryz.prog E37 w0 w0.heap.size := by
  refine ⟨fun c hc => ?_, fun c hc => ?_⟩
  · rcases List.mem_cons.1 hc with rfl | hc
    · exact fun w hb => all79 w (J_below hJ hb)
    cases hc
  · cases hc
noncomputable def ct37 : Ct := { f := 37, ps := [.v false .ro ls23], rs := [(false, ls29)], shared := false, pre := fun (x : (List Gen)) => pTo x, F := fun (x : (List Gen)) => toF x }
theorem law37 : ∀ q : (List Gen), pTo q → toS (α := Gen) Dft.dft 24 (fun y => pTo y) q (fun r => r = toF q) := fun q hq => toS_holds (α := Gen) Dft.dft 24 (fun y => pTo y) q (md_len' hq) (by omega) (fun i a h => md_mem hq (List.mem_of_getElem? h)) rfl
theorem all37 (w : World) (hJ : J w) : CtAt Tryz.prog ct37 w :=
  ct_by ok37 (cs37 w hJ) Tryz.func37 (by kernel_rfl) (H := (hint [(3, [.reg 3 79 ls79 true, .val 4 (.int .i64)])])) law37 (by kernel_rfl)
noncomputable def E10 : Env := { tt, eqs := [], cts := [ct36, ct37] }
theorem ok10 : EnvOk Tryz.prog E10 := ⟨ttOk, by kernel_rfl, rfl, mixOk⟩
theorem cs10 (w0 : World) (hJ : J w0) : EnvCts Tryz.prog E10 w0 w0.heap.size := by
  refine ⟨fun c hc => ?_, fun c hc => ?_⟩
  · rcases List.mem_cons.1 hc with rfl | hc
    · exact fun w hb => all36 w (J_below hJ hb)
    rcases List.mem_cons.1 hc with rfl | hc
    · exact fun w hb => all37 w (J_below hJ hb)
    cases hc
  · cases hc
noncomputable def ct10 : Ct := { f := 10, ps := [.v true .ro ls25], rs := [(true, ls31)], shared := false, pre := fun (x : Cch) => pTo x, F := fun (x : Cch) => toF x }
theorem law10 : ∀ q : Cch, pTo q → conj [pTo (q.1 : (List Shd)), pTo (q.2 : (List Gen))] (q = toF q) := fun q hq => ⟨(czh hq), (czt hq), rfl⟩
theorem all10 (w : World) (hJ : J w) : CtAt Tryz.prog ct10 w :=
  ct_by ok10 (cs10 w hJ) Tryz.func10 (by kernel_rfl) (H := (hint [])) law10 (by kernel_rfl)
noncomputable def E32 : Env := { tt, eqs := [], cts := [] }
theorem ok32 : EnvOk Tryz.prog E32 := ⟨ttOk, by kernel_rfl, rfl, mixOk⟩
theorem cs32 (w0 : World) (hJ : J w0) : EnvCts Tryz.prog E32 w0 w0.heap.size := by
  refine ⟨fun c hc => ?_, fun c hc => ?_⟩
  · cases hc
  · cases hc
noncomputable def ct32 : Ct := { f := 32, ps := [.v false .ro ls3, .v false .ro ls3, .v false .ro ls3], rs := [(false, ls4)], shared := false, pre := fun (x : Int × Int × Int) => pIn x.1 x.2.1 x.2.2, F := fun (x : Int × Int × Int) => mIn x.1 x.2.1 x.2.2 }
theorem law32 : ∀ x : Int × Int × Int, pIn x.1 x.2.1 x.2.2 → s_spec_l1In x.1 x.2.1 x.2.2 (fun r => r = mIn x.1 x.2.1 x.2.2) := fun x _ => spec_l1In_ok x.1 x.2.1 x.2.2
theorem all32 (w : World) (hJ : J w) : CtAt Tryz.prog ct32 w :=
  ct_by ok32 (cs32 w hJ) Tryz.func32 (by kernel_rfl) (H := (hint [])) law32 (by kernel_rfl)
noncomputable def E75 : Env := { tt, eqs := [], cts := [] }
theorem ok75 : EnvOk Tryz.prog E75 := ⟨ttOk, by kernel_rfl, rfl, mixOk⟩
theorem cs75 (w0 : World) (hJ : J w0) : EnvCts Tryz.prog E75 w0 w0.heap.size := by
  refine ⟨fun c hc => ?_, fun c hc => ?_⟩
  · cases hc
  · cases hc
noncomputable def ct75 : Ct := { f := 75, ps := [.v true .ro ls46], rs := [(false, ls3)], shared := false, pre := fun (x : Shd) => pFilledS x, F := fun (x : Shd) => mFilledS x }
theorem law75 : ∀ x : Shd, pFilledS x → s_spec_l12Filled x (fun r => r = mFilledS x) := fun x h => spec_l12Filled_ok x h
theorem all75 (w : World) (hJ : J w) : CtAt Tryz.prog ct75 w :=
  ct_by ok75 (cs75 w hJ) Tryz.func75 (by kernel_rfl) (H := (hint [(3, [.val 3 (.int .i64), .val 4 (.int .i64)])])) law75 (by kernel_rfl)
noncomputable def E35 : Env := { tt, eqs := [], cts := [ct32] }
theorem ok35 : EnvOk Tryz.prog E35 := ⟨ttOk, by kernel_rfl, rfl, mixOk⟩
theorem cs35 (w0 : World) (hJ : J w0) : EnvCts Tryz.prog E35 w0 w0.heap.size := by
  refine ⟨fun c hc => ?_, fun c hc => ?_⟩
  · rcases List.mem_cons.1 hc with rfl | hc
    · exact fun w hb => all32 w (J_below hJ hb)
    cases hc
  · cases hc
noncomputable def ct35 : Ct := { f := 35, ps := [.v false .ro ls9], rs := [(false, ls4)], shared := false, pre := fun (x : S) => pUriOk x, F := fun (x : S) => mUriOk x }
theorem law35 : ∀ x : S, pUriOk x → s_spec_UriOk x (fun r => r = mUriOk x) := fun x h => spec_UriOk_ok x h
theorem all35 (w : World) (hJ : J w) : CtAt Tryz.prog ct35 w :=
  ct_by ok35 (cs35 w hJ) Tryz.func35 (by kernel_rfl) (H := (hint [(2, [.val 3 (.int .i64)])])) law35 (by kernel_rfl)
noncomputable def E54 : Env := { tt, eqs := [], cts := [] }
theorem ok54 : EnvOk Tryz.prog E54 := ⟨ttOk, by kernel_rfl, rfl, mixOk⟩
theorem cs54 (w0 : World) (hJ : J w0) : EnvCts Tryz.prog E54 w0 w0.heap.size := by
  refine ⟨fun c hc => ?_, fun c hc => ?_⟩
  · cases hc
  · cases hc
noncomputable def ct54 : Ct := { f := 54, ps := [.v false .ro ls48, .v false .ro ls9], rs := [(false, ls9), (false, ls4)], shared := false, pre := fun (x : (List Fld) × S) => pFieldGet x.1 x.2, F := fun (x : (List Fld) × S) => mFieldGet x.1 x.2 }
theorem law54 : ∀ x : (List Fld) × S, pFieldGet x.1 x.2 → s_spec_FieldGet x.1 x.2 (fun r => r = mFieldGet x.1 x.2) := fun x h => spec_FieldGet_ok x.1 x.2 h
theorem all54 (w : World) (hJ : J w) : CtAt Tryz.prog ct54 w :=
  ct_by ok54 (cs54 w hJ) Tryz.func54 (by kernel_rfl) (H := (hint [(4, [.val 6 (.str), .val 7 (.bool), .val 8 (.int .i64)])])) law54 (by kernel_rfl)
noncomputable def E174 : Env := { tt, eqs := [], cts := [] }
theorem ok174 : EnvOk Tryz.prog E174 := ⟨ttOk, by kernel_rfl, rfl, mixOk⟩
theorem cs174 (w0 : World) (hJ : J w0) : EnvCts Tryz.prog E174 w0 w0.heap.size := by
  refine ⟨fun c hc => ?_, fun c hc => ?_⟩
  · cases hc
  · cases hc
noncomputable def ct174 : Ct := { f := 174, ps := [.v false .ro ls5], rs := [(false, ls4)], shared := false, pre := fun (x : Int) => pToken x, F := fun (x : Int) => mToken x }
theorem law174 : ∀ x : Int, pToken x → s_spec_l2Token x (fun r => r = mToken x) := fun x _ => spec_l2Token_ok x
theorem all174 (w : World) (hJ : J w) : CtAt Tryz.prog ct174 w :=
  ct_by ok174 (cs174 w hJ) Tryz.func174 (by kernel_rfl) (H := (hint [])) law174 (by kernel_rfl)
noncomputable def E142 : Env := { tt, eqs := [], cts := [ct174] }
theorem ok142 : EnvOk Tryz.prog E142 := ⟨ttOk, by kernel_rfl, rfl, mixOk⟩
theorem cs142 (w0 : World) (hJ : J w0) : EnvCts Tryz.prog E142 w0 w0.heap.size := by
  refine ⟨fun c hc => ?_, fun c hc => ?_⟩
  · rcases List.mem_cons.1 hc with rfl | hc
    · exact fun w hb => all174 w (J_below hJ hb)
    cases hc
  · cases hc
noncomputable def ct142 : Ct := { f := 142, ps := [.v false .ro ls9], rs := [(false, ls4)], shared := false, pre := fun (x : S) => pIsTokenText x, F := fun (x : S) => mIsTokenText x }
theorem law142 : ∀ x : S, pIsTokenText x → s_spec_IsTokenText x (fun r => r = mIsTokenText x) := fun x h => spec_IsTokenText_ok x h
theorem all142 (w : World) (hJ : J w) : CtAt Tryz.prog ct142 w :=
  ct_by ok142 (cs142 w hJ) Tryz.func142 (by kernel_rfl) (H := (hint [(2, [.val 3 (.int .i64)])])) law142 (by kernel_rfl)
noncomputable def E143 : Env := { tt, eqs := [], cts := [] }
theorem ok143 : EnvOk Tryz.prog E143 := ⟨ttOk, by kernel_rfl, rfl, mixOk⟩
theorem cs143 (w0 : World) (hJ : J w0) : EnvCts Tryz.prog E143 w0 w0.heap.size := by
  refine ⟨fun c hc => ?_, fun c hc => ?_⟩
  · cases hc
  · cases hc
noncomputable def ct143 : Ct := { f := 143, ps := [.v false .ro ls9], rs := [(false, ls9)], shared := false, pre := fun (x : S) => pLower x, F := fun (x : S) => mLower x }
theorem law143 : ∀ x : S, pLower x → s_spec_Lower x (fun r => r = mLower x) := fun x h => spec_Lower_ok x h
theorem all143 (w : World) (hJ : J w) : CtAt Tryz.prog ct143 w :=
  ct_by ok143 (cs143 w hJ) Tryz.func143 (by kernel_rfl) (H := (hint [(3, [.val 4 (.int .i64), .reg 3 5 [.int .u8] false])])) law143 (by kernel_rfl)
noncomputable def E127 : Env := { tt, eqs := [], cts := [] }
theorem ok127 : EnvOk Tryz.prog E127 := ⟨ttOk, by kernel_rfl, rfl, mixOk⟩
theorem cs127 (w0 : World) (hJ : J w0) : EnvCts Tryz.prog E127 w0 w0.heap.size := by
  refine ⟨fun c hc => ?_, fun c hc => ?_⟩
  · cases hc
  · cases hc
noncomputable def ct127 : Ct := { f := 127, ps := [.v false .ro ls5], rs := [(false, ls4)], shared := false, pre := fun (x : Int) => pBlank x, F := fun (x : Int) => mBlank x }
theorem law127 : ∀ x : Int, pBlank x → s_spec_l2Blank x (fun r => r = mBlank x) := fun x _ => spec_l2Blank_ok x
theorem all127 (w : World) (hJ : J w) : CtAt Tryz.prog ct127 w :=
  ct_by ok127 (cs127 w hJ) Tryz.func127 (by kernel_rfl) (H := (hint [])) law127 (by kernel_rfl)
noncomputable def E98 : Env := { tt, eqs := [], cts := [ct127] }
theorem ok98 : EnvOk Tryz.prog E98 := ⟨ttOk, by kernel_rfl, rfl, mixOk⟩
theorem cs98 (w0 : World) (hJ : J w0) : EnvCts Tryz.prog E98 w0 w0.heap.size := by
  refine ⟨fun c hc => ?_, fun c hc => ?_⟩
  · rcases List.mem_cons.1 hc with rfl | hc
    · exact fun w hb => all127 w (J_below hJ hb)
    cases hc
  · cases hc
noncomputable def ct98 : Ct := { f := 98, ps := [.v false .ro ls9], rs := [(false, ls9)], shared := false, pre := fun (x : S) => pTrim x, F := fun (x : S) => mTrim x }
theorem law98 : ∀ x : S, pTrim x → s_spec_Trim x (fun r => r = mTrim x) := fun x h => spec_Trim_ok x h
theorem all98 (w : World) (hJ : J w) : CtAt Tryz.prog ct98 w :=
  ct_by ok98 (cs98 w hJ) Tryz.func98 (by kernel_rfl) (H := (hint [(1, [.val 0 (.str)]), (3, [.val 0 (.str)])])) law98 (by kernel_rfl)
noncomputable def E218 : Env := { tt, eqs := [], cts := [ct98] }
theorem ok218 : EnvOk Tryz.prog E218 := ⟨ttOk, by kernel_rfl, rfl, mixOk⟩
theorem cs218 (w0 : World) (hJ : J w0) : EnvCts Tryz.prog E218 w0 w0.heap.size := by
  refine ⟨fun c hc => ?_, fun c hc => ?_⟩
  · rcases List.mem_cons.1 hc with rfl | hc
    · exact fun w hb => all98 w (J_below hJ hb)
    cases hc
  · cases hc
noncomputable def ct218 : Ct := { f := 218, ps := [.v false .ro ls9], rs := [(false, ls4)], shared := false, pre := fun (x : S) => pIsValueText x, F := fun (x : S) => mIsValueText x }
theorem law218 : ∀ x : S, pIsValueText x → s_spec_IsValueText x (fun r => r = mIsValueText x) := fun x h => spec_IsValueText_ok x h
theorem all218 (w : World) (hJ : J w) : CtAt Tryz.prog ct218 w :=
  ct_by ok218 (cs218 w hJ) Tryz.func218 (by kernel_rfl) (H := (hint [(2, [.val 3 (.int .i64)])])) law218 (by kernel_rfl)
noncomputable def E201 : Env := { tt, eqs := [], cts := [ct142, ct143, ct218] }
theorem ok201 : EnvOk Tryz.prog E201 := ⟨ttOk, by kernel_rfl, rfl, mixOk⟩
theorem cs201 (w0 : World) (hJ : J w0) : EnvCts Tryz.prog E201 w0 w0.heap.size := by
  refine ⟨fun c hc => ?_, fun c hc => ?_⟩
  · rcases List.mem_cons.1 hc with rfl | hc
    · exact fun w hb => all142 w (J_below hJ hb)
    rcases List.mem_cons.1 hc with rfl | hc
    · exact fun w hb => all143 w (J_below hJ hb)
    rcases List.mem_cons.1 hc with rfl | hc
    · exact fun w hb => all218 w (J_below hJ hb)
    cases hc
  · cases hc
noncomputable def ct201 : Ct := { f := 201, ps := [.v true .ro ls126], rs := [(false, ls4)], shared := false, pre := fun (x : Fld) => pFieldOk x, F := fun (x : Fld) => mFieldOk x }
theorem law201 : ∀ x : Fld, pFieldOk x → s_spec_l3FieldOk x (fun r => r = mFieldOk x) := fun x h => spec_l3FieldOk_ok x h
theorem all201 (w : World) (hJ : J w) : CtAt Tryz.prog ct201 w :=
  ct_by ok201 (cs201 w hJ) Tryz.func201 (by kernel_rfl) (H := (hint [])) law201 (by kernel_rfl)
noncomputable def E180 : Env := { tt, eqs := [], cts := [ct201] }
theorem ok180 : EnvOk Tryz.prog E180 := ⟨ttOk, by kernel_rfl, rfl, mixOk⟩
theorem cs180 (w0 : World) (hJ : J w0) : EnvCts Tryz.prog E180 w0 w0.heap.size := by
  refine ⟨fun c hc => ?_, fun c hc => ?_⟩
  · rcases List.mem_cons.1 hc with rfl | hc
    · exact fun w hb => all201 w (J_below hJ hb)
    cases hc
  · cases hc
noncomputable def ct180 : Ct := { f := 180, ps := [.v false .ro ls48], rs := [(false, ls4)], shared := false, pre := fun (x : (List Fld)) => pFieldsOk x, F := fun (x : (List Fld)) => mFieldsOk x }
theorem law180 : ∀ x : (List Fld), pFieldsOk x → s_spec_FieldsOk x (fun r => r = mFieldsOk x) := fun x h => spec_FieldsOk_ok x h
theorem all180 (w : World) (hJ : J w) : CtAt Tryz.prog ct180 w :=
  ct_by ok180 (cs180 w hJ) Tryz.func180 (by kernel_rfl) (H := (hint [(2, [.val 3 (.int .i64)])])) law180 (by kernel_rfl)
noncomputable def E151 : Env := { tt, eqs := [], cts := [ct54, ct180] }
theorem ok151 : EnvOk Tryz.prog E151 := ⟨ttOk, by kernel_rfl, rfl, mixOk⟩
theorem cs151 (w0 : World) (hJ : J w0) : EnvCts Tryz.prog E151 w0 w0.heap.size := by
  refine ⟨fun c hc => ?_, fun c hc => ?_⟩
  · rcases List.mem_cons.1 hc with rfl | hc
    · exact fun w hb => all54 w (J_below hJ hb)
    rcases List.mem_cons.1 hc with rfl | hc
    · exact fun w hb => all180 w (J_below hJ hb)
    cases hc
  · cases hc
noncomputable def ct151 : Ct := { f := 151, ps := [.v false .ro ls48], rs := [(false, ls4)], shared := false, pre := fun (x : (List Fld)) => pOwnFields x, F := fun (x : (List Fld)) => mOwnFields x }
theorem law151 : ∀ x : (List Fld), pOwnFields x → s_spec_l6Plain x (fun r => r = mOwnFields x) := fun x h => spec_l6Plain_ok x h
theorem all151 (w : World) (hJ : J w) : CtAt Tryz.prog ct151 w :=
  ct_by ok151 (cs151 w hJ) Tryz.func151 (by kernel_rfl) (H := (hint [])) law151 (by kernel_rfl)
noncomputable def E117 : Env := { tt, eqs := [], cts := [ct32, ct151] }
theorem ok117 : EnvOk Tryz.prog E117 := ⟨ttOk, by kernel_rfl, rfl, mixOk⟩
theorem cs117 (w0 : World) (hJ : J w0) : EnvCts Tryz.prog E117 w0 w0.heap.size := by
  refine ⟨fun c hc => ?_, fun c hc => ?_⟩
  · rcases List.mem_cons.1 hc with rfl | hc
    · exact fun w hb => all32 w (J_below hJ hb)
    rcases List.mem_cons.1 hc with rfl | hc
    · exact fun w hb => all151 w (J_below hJ hb)
    cases hc
  · cases hc
noncomputable def ct117 : Ct := { f := 117, ps := [.v true .ro ls62], rs := [(false, ls4)], shared := false, pre := fun (x : Rsp) => pResponseOk x, F := fun (x : Rsp) => mResponseOk x }
theorem law117 : ∀ x : Rsp, pResponseOk x → s_spec_ResponseOk x (fun r => r = mResponseOk x) := fun x h => spec_ResponseOk_ok x h
theorem all117 (w : World) (hJ : J w) : CtAt Tryz.prog ct117 w :=
  ct_by ok117 (cs117 w hJ) Tryz.func117 (by kernel_rfl) (H := (hint [])) law117 (by kernel_rfl)
noncomputable def E76 : Env := { tt, eqs := [], cts := [ct35, ct117, ct32] }
theorem ok76 : EnvOk Tryz.prog E76 := ⟨ttOk, by kernel_rfl, rfl, mixOk⟩
theorem cs76 (w0 : World) (hJ : J w0) : EnvCts Tryz.prog E76 w0 w0.heap.size := by
  refine ⟨fun c hc => ?_, fun c hc => ?_⟩
  · rcases List.mem_cons.1 hc with rfl | hc
    · exact fun w hb => all35 w (J_below hJ hb)
    rcases List.mem_cons.1 hc with rfl | hc
    · exact fun w hb => all117 w (J_below hJ hb)
    rcases List.mem_cons.1 hc with rfl | hc
    · exact fun w hb => all32 w (J_below hJ hb)
    cases hc
  · cases hc
noncomputable def ct76 : Ct := { f := 76, ps := [.v true .ro ls74], rs := [(false, ls4)], shared := false, pre := fun (x : Sto) => pStoredOk x, F := fun (x : Sto) => mStoredOk x }
theorem law76 : ∀ x : Sto, pStoredOk x → s_spec_StoredOk x (fun r => r = mStoredOk x) := fun x h => spec_StoredOk_ok x h
theorem all76 (w : World) (hJ : J w) : CtAt Tryz.prog ct76 w :=
  ct_by ok76 (cs76 w hJ) Tryz.func76 (by kernel_rfl) (H := (hint [])) law76 (by kernel_rfl)
noncomputable def E90 : Env := { tt, eqs := [126], cts := [] }
theorem ok90 : EnvOk Tryz.prog E90 := ⟨ttOk, by kernel_rfl, rfl, mixOk⟩
theorem cs90 (w0 : World) (hJ : J w0) : EnvCts Tryz.prog E90 w0 w0.heap.size := by
  refine ⟨fun c hc => ?_, fun c hc => ?_⟩
  · cases hc
  · cases hc
noncomputable def ct90 : Ct := { f := 90, ps := [.v false .ro ls48, .v false .ro ls48], rs := [(false, ls4)], shared := false, pre := fun (x : (List Fld) × (List Fld)) => pSameFields x.1 x.2, F := fun (x : (List Fld) × (List Fld)) => mSameFields x.1 x.2 }
theorem law90 : ∀ x : (List Fld) × (List Fld), pSameFields x.1 x.2 → s_spec_SameFields x.1 x.2 (fun r => r = mSameFields x.1 x.2) := fun x h => spec_SameFields_ok x.1 x.2 h
theorem all90 (w : World) (hJ : J w) : CtAt Tryz.prog ct90 w :=
  ct_by ok90 (cs90 w hJ) Tryz.func90 (by kernel_rfl) (H := (hint [(4, [.val 5 (.int .i64)])])) law90 (by kernel_rfl)
noncomputable def E77 : Env := { tt, eqs := [], cts := [ct90] }
theorem ok77 : EnvOk Tryz.prog E77 := ⟨ttOk, by kernel_rfl, rfl, mixOk⟩
theorem cs77 (w0 : World) (hJ : J w0) : EnvCts Tryz.prog E77 w0 w0.heap.size := by
  refine ⟨fun c hc => ?_, fun c hc => ?_⟩
  · rcases List.mem_cons.1 hc with rfl | hc
    · exact fun w hb => all90 w (J_below hJ hb)
    cases hc
  · cases hc
noncomputable def ct77 : Ct := { f := 77, ps := [.v true .ro ls74, .v true .ro ls74], rs := [(false, ls4)], shared := false, pre := fun (x : Sto × Sto) => pStandAlike x.1 x.2, F := fun (x : Sto × Sto) => mStandAlike x.1 x.2 }
theorem law77 : ∀ x : Sto × Sto, pStandAlike x.1 x.2 → s_spec_l12Same x.1 x.2 (fun r => r = mStandAlike x.1 x.2) := fun x h => spec_l12Same_ok x.1 x.2 h
theorem all77 (w : World) (hJ : J w) : CtAt Tryz.prog ct77 w :=
  ct_by ok77 (cs77 w hJ) Tryz.func77 (by kernel_rfl) (H := (hint [])) law77 (by kernel_rfl)
noncomputable def E33 : Env := { tt, eqs := [], cts := [ct32, ct75, ct76, ct77] }
theorem ok33 : EnvOk Tryz.prog E33 := ⟨ttOk, by kernel_rfl, rfl, mixOk⟩
theorem cs33 (w0 : World) (hJ : J w0) : EnvCts Tryz.prog E33 w0 w0.heap.size := by
  refine ⟨fun c hc => ?_, fun c hc => ?_⟩
  · rcases List.mem_cons.1 hc with rfl | hc
    · exact fun w hb => all32 w (J_below hJ hb)
    rcases List.mem_cons.1 hc with rfl | hc
    · exact fun w hb => all75 w (J_below hJ hb)
    rcases List.mem_cons.1 hc with rfl | hc
    · exact fun w hb => all76 w (J_below hJ hb)
    rcases List.mem_cons.1 hc with rfl | hc
    · exact fun w hb => all77 w (J_below hJ hb)
    cases hc
  · cases hc
noncomputable def ct33 : Ct := { f := 33, ps := [.v true .ro ls46], rs := [(false, ls4)], shared := false, pre := fun (x : Shd) => pShardOk x, F := fun (x : Shd) => mShardOk x }
theorem law33 : ∀ x : Shd, pShardOk x → s_spec_ShardOk x (fun r => r = mShardOk x) := fun x h => spec_ShardOk_ok x h
theorem all33 (w : World) (hJ : J w) : CtAt Tryz.prog ct33 w :=
  ct_by ok33 (cs33 w hJ) Tryz.func33 (by kernel_rfl) (H := (hint [(6, [.val 3 (.int .i64)]), (11, [.val 4 (.int .i64)])])) law33 (by kernel_rfl)
noncomputable def E78 : Env := { tt, eqs := [], cts := [] }
theorem ok78 : EnvOk Tryz.prog E78 := ⟨ttOk, by kernel_rfl, rfl, mixOk⟩
theorem cs78 (w0 : World) (hJ : J w0) : EnvCts Tryz.prog E78 w0 w0.heap.size := by
  refine ⟨fun c hc => ?_, fun c hc => ?_⟩
  · cases hc
  · cases hc
noncomputable def ct78 : Ct := { f := 78, ps := [.v false .ro ls9], rs := [(false, ls3)], shared := false, pre := fun (x : S) => pFnv x, F := fun (x : S) => mFnv x }
theorem law78 : ∀ x : S, pFnv x → s_spec_Fnv x (fun r => r = mFnv x) := fun x h => spec_Fnv_ok x h
theorem all78 (w : World) (hJ : J w) : CtAt Tryz.prog ct78 w :=
  ct_by ok78 (cs78 w hJ) Tryz.func78 (by kernel_rfl) (H := (hint [(3, [.val 3 (.int .i64), .val 4 (.int .i64)])])) law78 (by kernel_rfl)
noncomputable def E34 : Env := { tt, eqs := [], cts := [ct78] }
theorem ok34 : EnvOk Tryz.prog E34 := ⟨ttOk, by kernel_rfl, rfl, mixOk⟩
theorem cs34 (w0 : World) (hJ : J w0) : EnvCts Tryz.prog E34 w0 w0.heap.size := by
  refine ⟨fun c hc => ?_, fun c hc => ?_⟩
  · rcases List.mem_cons.1 hc with rfl | hc
    · exact fun w hb => all78 w (J_below hJ hb)
    cases hc
  · cases hc
noncomputable def ct34 : Ct := { f := 34, ps := [.v true .ro ls31, .v false .ro ls9], rs := [(false, ls3)], shared := false, pre := fun (x : Cch × S) => pShardOf x.1 x.2, F := fun (x : Cch × S) => mShardOf x.1 x.2 }
theorem law34 : ∀ x : Cch × S, pShardOf x.1 x.2 → s_spec_ShardOf x.1 x.2 (fun r => r = mShardOf x.1 x.2) := fun x h => spec_ShardOf_ok x.1 x.2 h
theorem all34 (w : World) (hJ : J w) : CtAt Tryz.prog ct34 w :=
  ct_by ok34 (cs34 w hJ) Tryz.func34 (by kernel_rfl) (H := (hint [])) law34 (by kernel_rfl)
noncomputable def E9 : Env := { tt, eqs := [], cts := [ct32, ct33, ct34, ct35] }
theorem ok9 : EnvOk Tryz.prog E9 := ⟨ttOk, by kernel_rfl, rfl, mixOk⟩
theorem cs9 (w0 : World) (hJ : J w0) : EnvCts Tryz.prog E9 w0 w0.heap.size := by
  refine ⟨fun c hc => ?_, fun c hc => ?_⟩
  · rcases List.mem_cons.1 hc with rfl | hc
    · exact fun w hb => all32 w (J_below hJ hb)
    rcases List.mem_cons.1 hc with rfl | hc
    · exact fun w hb => all33 w (J_below hJ hb)
    rcases List.mem_cons.1 hc with rfl | hc
    · exact fun w hb => all34 w (J_below hJ hb)
    rcases List.mem_cons.1 hc with rfl | hc
    · exact fun w hb => all35 w (J_below hJ hb)
    cases hc
  · cases hc
noncomputable def ct9 : Ct := { f := 9, ps := [.v true .ro ls31], rs := [(false, ls4)], shared := false, pre := fun (x : Cch) => pCacheOk x, F := fun (x : Cch) => mCacheOk x }
theorem law9 : ∀ x : Cch, pCacheOk x → s_spec_CacheOk x (fun r => r = mCacheOk x) := fun x h => spec_CacheOk_ok x h
theorem all9 (w : World) (hJ : J w) : CtAt Tryz.prog ct9 w :=
  ct_by ok9 (cs9 w hJ) Tryz.func9 (by kernel_rfl) (H := (hint [(4, [.val 3 (.int .i64)]), (9, [.val 4 (.int .i64)]), (14, [.val 5 (.int .i64)])])) law9 (by kernel_rfl)
noncomputable def E38 : Env := { tt, eqs := [], cts := [] }
theorem ok38 : EnvOk Tryz.prog E38 := ⟨ttOk, by kernel_rfl, rfl, mixOk⟩
theorem cs38 (w0 : World) (hJ : J w0) : EnvCts Tryz.prog E38 w0 w0.heap.size := by
  refine ⟨fun c hc => ?_, fun c hc => ?_⟩
  · cases hc
  · cases hc
noncomputable def ct38 : Ct := { f := 38, ps := [.v false .ro ls3, .v false .ro ls3, .v false .ro ls3], rs := [(false, ls4)], shared := false, pre := fun (x : Int × Int × Int) => pIn x.1 x.2.1 x.2.2, F := fun (x : Int × Int × Int) => mIn x.1 x.2.1 x.2.2 }
theorem law38 : ∀ x : Int × Int × Int, pIn x.1 x.2.1 x.2.2 → s_impl_in x.1 x.2.1 x.2.2 (fun r => r = mIn x.1 x.2.1 x.2.2) := fun x _ => impl_in_ok x.1 x.2.1 x.2.2
theorem all38 (w : World) (hJ : J w) : CtAt Tryz.prog ct38 w :=
  ct_by ok38 (cs38 w hJ) Tryz.func38 (by kernel_rfl) (H := (hint [])) law38 (by kernel_rfl)
noncomputable def E80 : Env := { tt, eqs := [], cts := [ct38] }
theorem ok80 : EnvOk Tryz.prog E80 := ⟨ttOk, by kernel_rfl, rfl, mixOk⟩
theorem cs80 (w0 : World) (hJ : J w0) : EnvCts Tryz.prog E80 w0 w0.heap.size := by
  refine ⟨fun c hc => ?_, fun c hc => ?_⟩
  · rcases List.mem_cons.1 hc with rfl | hc
    · exact fun w hb => all38 w (J_below hJ hb)
    cases hc
  · cases hc
noncomputable def ct80 : Ct := { f := 80, ps := [.v false .ro ls3, .v false .ro ls3], rs := [(false, ls4)], shared := false, pre := fun (x : Int × Int) => pShardSizes x.1 x.2, F := fun (x : Int × Int) => mShardSizes x.1 x.2 }
theorem law80 : ∀ x : Int × Int, pShardSizes x.1 x.2 → s_impl_shardSizes x.1 x.2 (fun r => r = mShardSizes x.1 x.2) := fun x _ => impl_shardSizes_ok x.1 x.2
theorem all80 (w : World) (hJ : J w) : CtAt Tryz.prog ct80 w :=
  ct_by ok80 (cs80 w hJ) Tryz.func80 (by kernel_rfl) (H := (hint [])) law80 (by kernel_rfl)
noncomputable def E43 : Env := { tt, eqs := [], cts := [ct38] }
theorem ok43 : EnvOk Tryz.prog E43 := ⟨ttOk, by kernel_rfl, rfl, mixOk⟩
theorem cs43 (w0 : World) (hJ : J w0) : EnvCts Tryz.prog E43 w0 w0.heap.size := by
  refine ⟨fun c hc => ?_, fun c hc => ?_⟩
  · rcases List.mem_cons.1 hc with rfl | hc
    · exact fun w hb => all38 w (J_below hJ hb)
    cases hc
  · cases hc
noncomputable def ct43 : Ct := { f := 43, ps := [.v false .ro ls9], rs := [(false, ls4)], shared := false, pre := fun (x : S) => pUriOk x, F := fun (x : S) => mUriOk x }
theorem law43 : ∀ x : S, pUriOk x → s_impl_UriOk x (fun r => r = mUriOk x) := fun x h => impl_UriOk_ok x h
theorem all43 (w : World) (hJ : J w) : CtAt Tryz.prog ct43 w :=
  ct_by ok43 (cs43 w hJ) Tryz.func43 (by kernel_rfl) (H := (hint [(2, [.val 6 (.int .i64)])])) law43 (by kernel_rfl)
noncomputable def E176 : Env := { tt, eqs := [], cts := [] }
theorem ok176 : EnvOk Tryz.prog E176 := ⟨ttOk, by kernel_rfl, rfl, mixOk⟩
theorem cs176 (w0 : World) (hJ : J w0) : EnvCts Tryz.prog E176 w0 w0.heap.size := by
  refine ⟨fun c hc => ?_, fun c hc => ?_⟩
  · cases hc
  · cases hc
noncomputable def ct176 : Ct := { f := 176, ps := [.v false .ro ls5], rs := [(false, ls4)], shared := false, pre := fun (x : Int) => pIsLetterOrDigit x, F := fun (x : Int) => mIsLetterOrDigit x }
theorem law176 : ∀ x : Int, pIsLetterOrDigit x → s_impl_isLetterOrDigit x (fun r => r = mIsLetterOrDigit x) := fun x _ => impl_isLetterOrDigit_ok x
theorem all176 (w : World) (hJ : J w) : CtAt Tryz.prog ct176 w :=
  ct_by ok176 (cs176 w hJ) Tryz.func176 (by kernel_rfl) (H := (hint [])) law176 (by kernel_rfl)
noncomputable def ct177 : Ct := indexByteCt 177
theorem all177 (w : World) (hJ : J w) : CtAt Tryz.prog ct177 w := indexByte_ct ⟨_, Tryz.func177, by kernel_rfl, by kernel_rfl⟩ (fun s c => Tryz.strings_IndexByte s c w)
noncomputable def E147 : Env := { tt, eqs := [], cts := [ct176, ct177] }
theorem ok147 : EnvOk Tryz.prog E147 := ⟨ttOk, by kernel_rfl, rfl, mixOk⟩
theorem cs147 (w0 : World) (hJ : J w0) : EnvCts Tryz.prog E147 w0 w0.heap.size := by
  refine ⟨fun c hc => ?_, fun c hc => ?_⟩
  · rcases List.mem_cons.1 hc with rfl | hc
    · exact fun w hb => all176 w (J_below hJ hb)
    rcases List.mem_cons.1 hc with rfl | hc
    · exact fun w hb => all177 w (J_below hJ hb)
    cases hc
  · cases hc
noncomputable def ct147 : Ct := { f := 147, ps := [.v false .ro ls9], rs := [(false, ls4)], shared := false, pre := fun (x : S) => pIsTokenText x, F := fun (x : S) => mIsTokenText x }
theorem law147 : ∀ x : S, pIsTokenText x → s_impl_IsTokenText x (fun r => r = mIsTokenText x) := fun x h => impl_IsTokenText_ok x h
theorem all147 (w : World) (hJ : J w) : CtAt Tryz.prog ct147 w :=
  ct_by ok147 (cs147 w hJ) Tryz.func147 (by kernel_rfl) (H := (hint [(2, [.val 6 (.int .i64)])])) law147 (by kernel_rfl)
set_option maxRecDepth 100000 in
theorem lower_calls148 (s : ByteArray) (hs : s.size ≤ 1073741824) (w : World) : Calls Tryz.prog 148 #[.string s] w fun e w' => e = .returned (.string (mLower s)) ∧ Below w.heap.size w w' := by
  obtain ⟨W1, cap, hconv, hW1⟩ := low_new Tryz.prog 9 152 5 w s Tryz.underlying9 Tryz.underlying152 Tryz.underlying5
  go_enter Tryz.func148, Tryz.ntmps148
  go_wp2
  go_loopg [10] s.size (fun gg v10 wr => ∃ i : Nat, i + gg = s.size ∧ v10 = .int .i64 (i : Int) ∧ Hid (LowW w.heap.size s i w wr))
  case atStart => exact ⟨0, by omega, rfl, hW1⟩
  case round =>
    obtain ⟨i, hi, rfl, hW⟩ := hrel
    have hH := hW.out
    by_cases hlt : i < s.size
    · have hcz := hH.2 i hlt
      rw [if_neg (Nat.lt_irrefl i)] at hcz
      have hlb := low_byte (bs s)[i]!
      have hx : ((bs s)[i]!).toNat < 256 := UInt8.toNat_lt _
      generalize hxe : ((bs s)[i]!).toNat = x at *
      obtain ⟨hc, hz⟩ := hcz
      have d1 : ((i : Int) < (s.size : Int)) := by omega
      have d0 : (0 : Int) ≤ (i : Int) := by omega
      have HC := (show Hid (i < s.size ∧ LowW w.heap.size s i w wr ∧ ((bs s)[i]!).toNat = x) from ⟨hlt, hH, hxe⟩)
      have HL := (show Hid _ from hlb)
      clear hH hlb hW hxe hlt
      by_cases c1 : 65 ≤ x
      · by_cases c2 : x ≤ 90
        · have k1 : decide (65 ≤ (x : Int)) = true := decide_eq_true (by omega)
          have k2 : decide ((x : Int) ≤ 90) = true := decide_eq_true (by omega)
          go_wp2
          go_roundg (gk - 1)
          case measure => have := HC.out.1; omega
          case rel =>
            obtain ⟨hlt, hH, hxe⟩ := HC.out
            refine ⟨i + 1, by omega, by simp, hH.next hlt ?_⟩
            rw [← HL.out.1 ⟨c1, c2⟩, IntKind.wrap_u8, IntKind.wrap_u8]; omega
        · have k1 : decide (65 ≤ (x : Int)) = true := decide_eq_true (by omega)
          have k2 : decide ((x : Int) ≤ 90) = false := decide_eq_false (by omega)
          go_wp2
          go_roundg (gk - 1)
          case measure => have := HC.out.1; omega
          case rel =>
            obtain ⟨hlt, hH, hxe⟩ := HC.out
            exact ⟨i + 1, by omega, by simp, hH.skip hlt (HL.out.2 (fun h => c2 h.2))⟩
      · have k1 : decide (65 ≤ (x : Int)) = false := decide_eq_false (by omega)
        go_wp2
        go_roundg (gk - 1)
        case measure => have := HC.out.1; omega
        case rel =>
          obtain ⟨hlt, hH, hxe⟩ := HC.out
          exact ⟨i + 1, by omega, by simp, hH.skip hlt (HL.out.2 (fun h => c1 h.1))⟩
    · have hie : i = s.size := by omega
      subst hie
      have hb := low_end Tryz.prog 152 9 5 w.heap.size cap w wr s Tryz.underlying152 Tryz.underlying5 Tryz.underlying9 hH
      have HC := (show Hid (Below w.heap.size w wr) from hH.1)
      clear hH hW hlt
      go_wp2
      go_ret
      exact ⟨rfl, HC.out⟩
noncomputable def ct148 : Ct := lowerCt 148
theorem all148 (w : World) (hJ : J w) : CtAt Tryz.prog ct148 w := lower_ct ⟨_, Tryz.func148, by kernel_rfl, by kernel_rfl⟩ (fun s h => lower_calls148 s h w)
noncomputable def ct134 : Ct := trimLCt 134
theorem all134 (w : World) (hJ : J w) : CtAt Tryz.prog ct134 w := trimL_ct ⟨_, Tryz.func134, by kernel_rfl, by kernel_rfl⟩ (fun s cs h1 h2 h3 => Go.Proofs.Any.strings_Trim_laid Tryz.lays160 (by kernel_rfl) s cs w h1 h2 h3)
noncomputable def E103 : Env := { tt, eqs := [], cts := [ct134] }
theorem ok103 : EnvOk Tryz.prog E103 := ⟨ttOk, by kernel_rfl, rfl, mixOk⟩
theorem cs103 (w0 : World) (hJ : J w0) : EnvCts Tryz.prog E103 w0 w0.heap.size := by
  refine ⟨fun c hc => ?_, fun c hc => ?_⟩
  · rcases List.mem_cons.1 hc with rfl | hc
    · exact fun w hb => all134 w (J_below hJ hb)
    cases hc
  · cases hc
noncomputable def ct103 : Ct := { f := 103, ps := [.v false .ro ls9], rs := [(false, ls9)], shared := false, pre := fun (x : S) => pTrim x, F := fun (x : S) => mTrim x }
theorem law103 : ∀ x : S, pTrim x → s_impl_Trim x (fun r => r = mTrim x) := fun x h => impl_Trim_ok x h
theorem all103 (w : World) (hJ : J w) : CtAt Tryz.prog ct103 w :=
  ct_by ok103 (cs103 w hJ) Tryz.func103 (by kernel_rfl) (H := (hint [])) law103 (by kernel_rfl)
noncomputable def E220 : Env := { tt, eqs := [], cts := [ct103] }
theorem ok220 : EnvOk Tryz.prog E220 := ⟨ttOk, by kernel_rfl, rfl, mixOk⟩
theorem cs220 (w0 : World) (hJ : J w0) : EnvCts Tryz.prog E220 w0 w0.heap.size := by
  refine ⟨fun c hc => ?_, fun c hc => ?_⟩
  · rcases List.mem_cons.1 hc with rfl | hc
    · exact fun w hb => all103 w (J_below hJ hb)
    cases hc
  · cases hc
noncomputable def ct220 : Ct := { f := 220, ps := [.v false .ro ls9], rs := [(false, ls4)], shared := false, pre := fun (x : S) => pIsValueText x, F := fun (x : S) => mIsValueText x }
theorem law220 : ∀ x : S, pIsValueText x → s_impl_IsValueText x (fun r => r = mIsValueText x) := fun x h => impl_IsValueText_ok x h
theorem all220 (w : World) (hJ : J w) : CtAt Tryz.prog ct220 w :=
  ct_by ok220 (cs220 w hJ) Tryz.func220 (by kernel_rfl) (H := (hint [(2, [.val 6 (.int .i64)])])) law220 (by kernel_rfl)
noncomputable def E204 : Env := { tt, eqs := [], cts := [ct147, ct148, ct220] }
theorem ok204 : EnvOk Tryz.prog E204 := ⟨ttOk, by kernel_rfl, rfl, mixOk⟩
theorem cs204 (w0 : World) (hJ : J w0) : EnvCts Tryz.prog E204 w0 w0.heap.size := by
  refine ⟨fun c hc => ?_, fun c hc => ?_⟩
  · rcases List.mem_cons.1 hc with rfl | hc
    · exact fun w hb => all147 w (J_below hJ hb)
    rcases List.mem_cons.1 hc with rfl | hc
    · exact fun w hb => all148 w (J_below hJ hb)
    rcases List.mem_cons.1 hc with rfl | hc
    · exact fun w hb => all220 w (J_below hJ hb)
    cases hc
  · cases hc
noncomputable def ct204 : Ct := { f := 204, ps := [.v true .ro ls126], rs := [(false, ls4)], shared := false, pre := fun (x : Fld) => pFieldOk x, F := fun (x : Fld) => mFieldOk x }
theorem law204 : ∀ x : Fld, pFieldOk x → s_impl_fieldOk x (fun r => r = mFieldOk x) := fun x h => impl_fieldOk_ok x h
theorem all204 (w : World) (hJ : J w) : CtAt Tryz.prog ct204 w :=
  ct_by ok204 (cs204 w hJ) Tryz.func204 (by kernel_rfl) (H := (hint [])) law204 (by kernel_rfl)
noncomputable def E203 : Env := { tt, eqs := [], cts := [ct204] }
theorem ok203 : EnvOk Tryz.prog E203 := ⟨ttOk, by kernel_rfl, rfl, mixOk⟩
theorem cs203 (w0 : World) (hJ : J w0) : EnvCts Tryz.prog E203 w0 w0.heap.size := by
  refine ⟨fun c hc => ?_, fun c hc => ?_⟩
  · rcases List.mem_cons.1 hc with rfl | hc
    · exact fun w hb => all204 w (J_below hJ hb)
    cases hc
  · cases hc
noncomputable def ct203 : Ct := { f := 203, ps := [.v true .ro ls126], rs := [(false, ls4)], shared := false, pre := fun (x : Fld) => pFieldsOk_1 x, F := fun (x : Fld) => mFieldsOk_1 x }
theorem law203 : ∀ x : Fld, pFieldsOk_1 x → s_impl_FieldsOk_1 x (fun r => r = mFieldsOk_1 x) := fun x h => impl_FieldsOk_1_ok x h
theorem all203 (w : World) (hJ : J w) : CtAt Tryz.prog ct203 w :=
  ct_by ok203 (cs203 w hJ) Tryz.func203 (by kernel_rfl) (H := (hint [])) law203 (by kernel_rfl)
noncomputable def E219_203 : Env := { tt, eqs := [], cts := [ct203] }
theorem ok219_203 : EnvOk Tryz.prog E219_203 := ⟨ttOk, by kernel_rfl, rfl, mixOk⟩
theorem cs219_203 (w0 : World) (hJ : J w0) : EnvCts Tryz.prog E219_203 w0 w0.heap.size := by
  refine ⟨fun c hc => ?_, fun c hc => ?_⟩
  · rcases List.mem_cons.1 hc with rfl | hc
    · exact fun w hb => all203 w (J_below hJ hb)
    cases hc
  · cases hc
noncomputable def ct219_203 : Ct := { f := 219, ps := [.v false .ro ls48, .c 203 []], rs := [(false, ls3)], shared := false, pre := fun (x : (List Fld) × Unit) => pIndexFunc_FieldsOk_1 x.1 x.2, F := fun (x : (List Fld) × Unit) => mIndexFunc_FieldsOk_1 x.1 x.2 }
theorem law219_203 : ∀ x : (List Fld) × Unit, pIndexFunc_FieldsOk_1 x.1 x.2 → s_IndexFunc_FieldsOk_1 x.1 x.2 (fun r => r = mIndexFunc_FieldsOk_1 x.1 x.2) := fun x h => IndexFunc_FieldsOk_1_ok x.1 x.2 h
theorem all219_203 (w : World) (hJ : J w) : CtAt Tryz.prog ct219_203 w :=
  ct_by ok219_203 (cs219_203 w hJ) Tryz.func219 (by kernel_rfl) (H := (hint [(2, [.val 8 (.int .i64)])])) law219_203 (by kernel_rfl)
noncomputable def E202_203 : Env := { tt, eqs := [], cts := [ct219_203] }
theorem ok202_203 : EnvOk Tryz.prog E202_203 := ⟨ttOk, by kernel_rfl, rfl, mixOk⟩
theorem cs202_203 (w0 : World) (hJ : J w0) : EnvCts Tryz.prog E202_203 w0 w0.heap.size := by
  refine ⟨fun c hc => ?_, fun c hc => ?_⟩
  · rcases List.mem_cons.1 hc with rfl | hc
    · exact fun w hb => all219_203 w (J_below hJ hb)
    cases hc
  · cases hc
noncomputable def ct202_203 : Ct := { f := 202, ps := [.v false .ro ls48, .c 203 []], rs := [(false, ls4)], shared := false, pre := fun (x : (List Fld) × Unit) => pContainsFunc_FieldsOk_1 x.1 x.2, F := fun (x : (List Fld) × Unit) => mContainsFunc_FieldsOk_1 x.1 x.2 }
theorem law202_203 : ∀ x : (List Fld) × Unit, pContainsFunc_FieldsOk_1 x.1 x.2 → s_ContainsFunc_FieldsOk_1 x.1 x.2 (fun r => r = mContainsFunc_FieldsOk_1 x.1 x.2) := fun x h => ContainsFunc_FieldsOk_1_ok x.1 x.2 h
theorem all202_203 (w : World) (hJ : J w) : CtAt Tryz.prog ct202_203 w :=
  ct_by ok202_203 (cs202_203 w hJ) Tryz.func202 (by kernel_rfl) (H := (hint [])) law202_203 (by kernel_rfl)
noncomputable def E181 : Env := { tt, eqs := [], cts := [ct202_203] }
theorem ok181 : EnvOk Tryz.prog E181 := ⟨ttOk, by kernel_rfl, rfl, mixOk⟩
theorem cs181 (w0 : World) (hJ : J w0) : EnvCts Tryz.prog E181 w0 w0.heap.size := by
  refine ⟨fun c hc => ?_, fun c hc => ?_⟩
  · rcases List.mem_cons.1 hc with rfl | hc
    · exact fun w hb => all202_203 w (J_below hJ hb)
    cases hc
  · cases hc
noncomputable def ct181 : Ct := { f := 181, ps := [.v false .ro ls48], rs := [(false, ls4)], shared := false, pre := fun (x : (List Fld)) => pFieldsOk x, F := fun (x : (List Fld)) => mFieldsOk x }
theorem law181 : ∀ x : (List Fld), pFieldsOk x → s_impl_FieldsOk x (fun r => r = mFieldsOk x) := fun x h => impl_FieldsOk_ok x h
theorem all181 (w : World) (hJ : J w) : CtAt Tryz.prog ct181 w :=
  ct_by ok181 (cs181 w hJ) Tryz.func181 (by kernel_rfl) (H := (hint [])) law181 (by kernel_rfl)
noncomputable def ct100 : Ct := joinCt 9 100
theorem all100 (w : World) (hJ : J w) : CtAt Tryz.prog ct100 w := join_ct ⟨_, Tryz.func100, by kernel_rfl, by kernel_rfl⟩ (fun a c sep => Tryz.strings_Join_none a c sep w) (fun bk o c xs sep h1 h2 h3 h4 h5 => Tryz.strings_Join bk o c xs sep w h1 h2 h3 h4 h5)
noncomputable def E58 : Env := { tt, eqs := [], cts := [ct100] }
theorem ok58 : EnvOk Tryz.prog E58 := ⟨ttOk, by kernel_rfl, rfl, mixOk⟩
theorem cs58 (w0 : World) (hJ : J w0) : EnvCts Tryz.prog E58 w0 w0.heap.size := by
  refine ⟨fun c hc => ?_, fun c hc => ?_⟩
  · rcases List.mem_cons.1 hc with rfl | hc
    · exact fun w hb => all100 w (J_below hJ hb)
    cases hc
  · cases hc
noncomputable def ct58 : Ct := { f := 58, ps := [.v false .ro ls48, .v false .ro ls9], rs := [(false, ls9), (false, ls4)], shared := false, pre := fun (x : (List Fld) × S) => pFieldGet x.1 x.2, F := fun (x : (List Fld) × S) => mFieldGet x.1 x.2 }
theorem law58 : ∀ x : (List Fld) × S, pFieldGet x.1 x.2 → s_impl_FieldGet x.1 x.2 (fun r => r = mFieldGet x.1 x.2) := fun x h => impl_FieldGet_ok x.1 x.2 h
theorem all58 (w : World) (hJ : J w) : CtAt Tryz.prog ct58 w :=
  ct_by ok58 (cs58 w hJ) Tryz.func58 (by kernel_rfl) (H := (hint [(3, [.reg 6 9 [.str] true, .val 12 (.int .i64)])])) law58 (by kernel_rfl)
noncomputable def E107 : Env := { tt, eqs := [], cts := [ct58] }
theorem ok107 : EnvOk Tryz.prog E107 := ⟨ttOk, by kernel_rfl, rfl, mixOk⟩
theorem cs107 (w0 : World) (hJ : J w0) : EnvCts Tryz.prog E107 w0 w0.heap.size := by
  refine ⟨fun c hc => ?_, fun c hc => ?_⟩
  · rcases List.mem_cons.1 hc with rfl | hc
    · exact fun w hb => all58 w (J_below hJ hb)
    cases hc
  · cases hc
noncomputable def ct107 : Ct := { f := 107, ps := [.v false .ro ls48, .v false .ro ls9], rs := [(false, ls4)], shared := false, pre := fun (x : (List Fld) × S) => pHasField x.1 x.2, F := fun (x : (List Fld) × S) => mHasField x.1 x.2 }
theorem law107 : ∀ x : (List Fld) × S, pHasField x.1 x.2 → s_impl_hasField x.1 x.2 (fun r => r = mHasField x.1 x.2) := fun x h => impl_hasField_ok x.1 x.2 h
theorem all107 (w : World) (hJ : J w) : CtAt Tryz.prog ct107 w :=
  ct_by ok107 (cs107 w hJ) Tryz.func107 (by kernel_rfl) (H := (hint [])) law107 (by kernel_rfl)
noncomputable def E182 : Env := { tt, eqs := [], cts := [ct107] }
theorem ok182 : EnvOk Tryz.prog E182 := ⟨ttOk, by kernel_rfl, rfl, mixOk⟩
theorem cs182 (w0 : World) (hJ : J w0) : EnvCts Tryz.prog E182 w0 w0.heap.size := by
  refine ⟨fun c hc => ?_, fun c hc => ?_⟩
  · rcases List.mem_cons.1 hc with rfl | hc
    · exact fun w hb => all107 w (J_below hJ hb)
    cases hc
  · cases hc
noncomputable def ct182 : Ct := { f := 182, ps := [.v false .ro ls48], rs := [(false, ls4)], shared := false, pre := fun (x : (List Fld)) => pBodyFields x, F := fun (x : (List Fld)) => mBodyFields x }
theorem law182 : ∀ x : (List Fld), pBodyFields x → s_impl_bodyFields x (fun r => r = mBodyFields x) := fun x h => impl_bodyFields_ok x h
theorem all182 (w : World) (hJ : J w) : CtAt Tryz.prog ct182 w :=
  ct_by ok182 (cs182 w hJ) Tryz.func182 (by kernel_rfl) (H := (hint [])) law182 (by kernel_rfl)
noncomputable def E152 : Env := { tt, eqs := [], cts := [ct181, ct182] }
theorem ok152 : EnvOk Tryz.prog E152 := ⟨ttOk, by kernel_rfl, rfl, mixOk⟩
theorem cs152 (w0 : World) (hJ : J w0) : EnvCts Tryz.prog E152 w0 w0.heap.size := by
  refine ⟨fun c hc => ?_, fun c hc => ?_⟩
  · rcases List.mem_cons.1 hc with rfl | hc
    · exact fun w hb => all181 w (J_below hJ hb)
    rcases List.mem_cons.1 hc with rfl | hc
    · exact fun w hb => all182 w (J_below hJ hb)
    cases hc
  · cases hc
noncomputable def ct152 : Ct := { f := 152, ps := [.v false .ro ls48], rs := [(false, ls4)], shared := false, pre := fun (x : (List Fld)) => pOwnFields x, F := fun (x : (List Fld)) => mOwnFields x }
theorem law152 : ∀ x : (List Fld), pOwnFields x → s_impl_ownFields x (fun r => r = mOwnFields x) := fun x h => impl_ownFields_ok x h
theorem all152 (w : World) (hJ : J w) : CtAt Tryz.prog ct152 w :=
  ct_by ok152 (cs152 w hJ) Tryz.func152 (by kernel_rfl) (H := (hint [])) law152 (by kernel_rfl)
noncomputable def E153 : Env := { tt, eqs := [], cts := [] }
theorem ok153 : EnvOk Tryz.prog E153 := ⟨ttOk, by kernel_rfl, rfl, mixOk⟩
theorem cs153 (w0 : World) (hJ : J w0) : EnvCts Tryz.prog E153 w0 w0.heap.size := by
  refine ⟨fun c hc => ?_, fun c hc => ?_⟩
  · cases hc
  · cases hc
noncomputable def ct153 : Ct := { f := 153, ps := [.v false .ro ls3], rs := [(false, ls4)], shared := false, pre := fun (x : Int) => pBodiless x, F := fun (x : Int) => mBodiless x }
theorem law153 : ∀ x : Int, pBodiless x → s_impl_bodiless x (fun r => r = mBodiless x) := fun x _ => impl_bodiless_ok x
theorem all153 (w : World) (hJ : J w) : CtAt Tryz.prog ct153 w :=
  ct_by ok153 (cs153 w hJ) Tryz.func153 (by kernel_rfl) (H := (hint [])) law153 (by kernel_rfl)
noncomputable def E118 : Env := { tt, eqs := [], cts := [ct38, ct152, ct153] }
theorem ok118 : EnvOk Tryz.prog E118 := ⟨ttOk, by kernel_rfl, rfl, mixOk⟩
theorem cs118 (w0 : World) (hJ : J w0) : EnvCts Tryz.prog E118 w0 w0.heap.size := by
  refine ⟨fun c hc => ?_, fun c hc => ?_⟩
  · rcases List.mem_cons.1 hc with rfl | hc
    · exact fun w hb => all38 w (J_below hJ hb)
    rcases List.mem_cons.1 hc with rfl | hc
    · exact fun w hb => all152 w (J_below hJ hb)
    rcases List.mem_cons.1 hc with rfl | hc
    · exact fun w hb => all153 w (J_below hJ hb)
    cases hc
  · cases hc
noncomputable def ct118 : Ct := { f := 118, ps := [.v true .ro ls62], rs := [(false, ls4)], shared := false, pre := fun (x : Rsp) => pResponseOk x, F := fun (x : Rsp) => mResponseOk x }
theorem law118 : ∀ x : Rsp, pResponseOk x → s_impl_ResponseOk x (fun r => r = mResponseOk x) := fun x h => impl_ResponseOk_ok x h
theorem all118 (w : World) (hJ : J w) : CtAt Tryz.prog ct118 w :=
  ct_by ok118 (cs118 w hJ) Tryz.func118 (by kernel_rfl) (H := (hint [])) law118 (by kernel_rfl)
noncomputable def E81 : Env := { tt, eqs := [], cts := [ct43, ct118, ct38] }
theorem ok81 : EnvOk Tryz.prog E81 := ⟨ttOk, by kernel_rfl, rfl, mixOk⟩
theorem cs81 (w0 : World) (hJ : J w0) : EnvCts Tryz.prog E81 w0 w0.heap.size := by
  refine ⟨fun c hc => ?_, fun c hc => ?_⟩
  · rcases List.mem_cons.1 hc with rfl | hc
    · exact fun w hb => all43 w (J_below hJ hb)
    rcases List.mem_cons.1 hc with rfl | hc
    · exact fun w hb => all118 w (J_below hJ hb)
    rcases List.mem_cons.1 hc with rfl | hc
    · exact fun w hb => all38 w (J_below hJ hb)
    cases hc
  · cases hc
noncomputable def ct81 : Ct := { f := 81, ps := [.v true .ro ls74], rs := [(false, ls4)], shared := false, pre := fun (x : Sto) => pStoredOk x, F := fun (x : Sto) => mStoredOk x }
theorem law81 : ∀ x : Sto, pStoredOk x → s_impl_StoredOk x (fun r => r = mStoredOk x) := fun x h => impl_StoredOk_ok x h
theorem all81 (w : World) (hJ : J w) : CtAt Tryz.prog ct81 w :=
  ct_by ok81 (cs81 w hJ) Tryz.func81 (by kernel_rfl) (H := (hint [])) law81 (by kernel_rfl)
noncomputable def E123 : Env := { tt, eqs := [126], cts := [] }
theorem ok123 : EnvOk Tryz.prog E123 := ⟨ttOk, by kernel_rfl, rfl, mixOk⟩
theorem cs123 (w0 : World) (hJ : J w0) : EnvCts Tryz.prog E123 w0 w0.heap.size := by
  refine ⟨fun c hc => ?_, fun c hc => ?_⟩
  · cases hc
  · cases hc
noncomputable def ct123 : Ct := { f := 123, ps := [.v false .ro ls48, .v false .ro ls48], rs := [(false, ls4)], shared := false, pre := fun (x : (List Fld) × (List Fld)) => pEqual_Field x.1 x.2, F := fun (x : (List Fld) × (List Fld)) => mEqual_Field x.1 x.2 }
theorem law123 : ∀ x : (List Fld) × (List Fld), pEqual_Field x.1 x.2 → s_slices_Equal_Field x.1 x.2 (fun r => r = mEqual_Field x.1 x.2) := fun x h => slices_Equal_Field_ok x.1 x.2 h
theorem all123 (w : World) (hJ : J w) : CtAt Tryz.prog ct123 w :=
  ct_by ok123 (cs123 w hJ) Tryz.func123 (by kernel_rfl) (H := (hint [(4, [.val 13 (.int .i64)])])) law123 (by kernel_rfl)
noncomputable def E94 : Env := { tt, eqs := [], cts := [ct123] }
theorem ok94 : EnvOk Tryz.prog E94 := ⟨ttOk, by kernel_rfl, rfl, mixOk⟩
theorem cs94 (w0 : World) (hJ : J w0) : EnvCts Tryz.prog E94 w0 w0.heap.size := by
  refine ⟨fun c hc => ?_, fun c hc => ?_⟩
  · rcases List.mem_cons.1 hc with rfl | hc
    · exact fun w hb => all123 w (J_below hJ hb)
    cases hc
  · cases hc
noncomputable def ct94 : Ct := { f := 94, ps := [.v false .ro ls48, .v false .ro ls48], rs := [(false, ls4)], shared := false, pre := fun (x : (List Fld) × (List Fld)) => pSameFields x.1 x.2, F := fun (x : (List Fld) × (List Fld)) => mSameFields x.1 x.2 }
theorem law94 : ∀ x : (List Fld) × (List Fld), pSameFields x.1 x.2 → s_impl_SameFields x.1 x.2 (fun r => r = mSameFields x.1 x.2) := fun x h => impl_SameFields_ok x.1 x.2 h
theorem all94 (w : World) (hJ : J w) : CtAt Tryz.prog ct94 w :=
  ct_by ok94 (cs94 w hJ) Tryz.func94 (by kernel_rfl) (H := (hint [])) law94 (by kernel_rfl)
noncomputable def E83 : Env := { tt, eqs := [], cts := [ct94] }
theorem ok83 : EnvOk Tryz.prog E83 := ⟨ttOk, by kernel_rfl, rfl, mixOk⟩
theorem cs83 (w0 : World) (hJ : J w0) : EnvCts Tryz.prog E83 w0 w0.heap.size := by
  refine ⟨fun c hc => ?_, fun c hc => ?_⟩
  · rcases List.mem_cons.1 hc with rfl | hc
    · exact fun w hb => all94 w (J_below hJ hb)
    cases hc
  · cases hc
noncomputable def ct83 : Ct := { f := 83, ps := [.v true .ro ls74, .v true .ro ls74], rs := [(false, ls4)], shared := false, pre := fun (x : Sto × Sto) => pStandAlike x.1 x.2, F := fun (x : Sto × Sto) => mStandAlike x.1 x.2 }
theorem law83 : ∀ x : Sto × Sto, pStandAlike x.1 x.2 → s_impl_standAlike x.1 x.2 (fun r => r = mStandAlike x.1 x.2) := fun x h => impl_standAlike_ok x.1 x.2 h
theorem all83 (w : World) (hJ : J w) : CtAt Tryz.prog ct83 w :=
  ct_by ok83 (cs83 w hJ) Tryz.func83 (by kernel_rfl) (H := (hint [])) law83 (by kernel_rfl)
noncomputable def E82 : Env := { tt, eqs := [], cts := [ct83] }
theorem ok82 : EnvOk Tryz.prog E82 := ⟨ttOk, by kernel_rfl, rfl, mixOk⟩
theorem cs82 (w0 : World) (hJ : J w0) : EnvCts Tryz.prog E82 w0 w0.heap.size := by
  refine ⟨fun c hc => ?_, fun c hc => ?_⟩
  · rcases List.mem_cons.1 hc with rfl | hc
    · exact fun w hb => all83 w (J_below hJ hb)
    cases hc
  · cases hc
noncomputable def ct82 : Ct := { f := 82, ps := [.v true .ro ls76, .p false ls76], rs := [(false, ls4)], shared := false, pre := fun (x : Slt × Slt) => pShardOk_1 x.1 x.2, F := fun (x : Slt × Slt) => mShardOk_1 x.1 x.2 }
theorem law82 : ∀ x : Slt × Slt, pShardOk_1 x.1 x.2 → s_impl_ShardOk_1 x.1 x.2 (fun r => r = mShardOk_1 x.1 x.2) := fun x h => impl_ShardOk_1_ok x.1 x.2 h
theorem all82 (w : World) (hJ : J w) : CtAt Tryz.prog ct82 w :=
  ct_by ok82 (cs82 w hJ) Tryz.func82 (by kernel_rfl) (H := (hint [])) law82 (by kernel_rfl)
noncomputable def E85_82 : Env := { tt, eqs := [], cts := [ct82] }
theorem ok85_82 : EnvOk Tryz.prog E85_82 := ⟨ttOk, by kernel_rfl, rfl, mixOk⟩
theorem cs85_82 (w0 : World) (hJ : J w0) : EnvCts Tryz.prog E85_82 w0 w0.heap.size := by
  refine ⟨fun c hc => ?_, fun c hc => ?_⟩
  · rcases List.mem_cons.1 hc with rfl | hc
    · exact fun w hb => all82 w (J_below hJ hb)
    cases hc
  · cases hc
noncomputable def ct85_82 : Ct := { f := 85, ps := [.v false .ro ls44, .c 82 [ls76]], rs := [(false, ls3)], shared := false, pre := fun (x : (List Slt) × Slt) => pIndexFunc_ShardOk_1 x.1 x.2, F := fun (x : (List Slt) × Slt) => mIndexFunc_ShardOk_1 x.1 x.2 }
theorem law85_82 : ∀ x : (List Slt) × Slt, pIndexFunc_ShardOk_1 x.1 x.2 → s_IndexFunc_ShardOk_1 x.1 x.2 (fun r => r = mIndexFunc_ShardOk_1 x.1 x.2) := fun x h => IndexFunc_ShardOk_1_ok x.1 x.2 h
theorem all85_82 (w : World) (hJ : J w) : CtAt Tryz.prog ct85_82 w :=
  ct_by ok85_82 (cs85_82 w hJ) Tryz.func85 (by kernel_rfl) (H := (hint [(2, [.val 8 (.int .i64)])])) law85_82 (by kernel_rfl)
noncomputable def E40_82 : Env := { tt, eqs := [], cts := [ct85_82] }
theorem ok40_82 : EnvOk Tryz.prog E40_82 := ⟨ttOk, by kernel_rfl, rfl, mixOk⟩
theorem cs40_82 (w0 : World) (hJ : J w0) : EnvCts Tryz.prog E40_82 w0 w0.heap.size := by
  refine ⟨fun c hc => ?_, fun c hc => ?_⟩
  · rcases List.mem_cons.1 hc with rfl | hc
    · exact fun w hb => all85_82 w (J_below hJ hb)
    cases hc
  · cases hc
noncomputable def ct40_82 : Ct := { f := 40, ps := [.v false .ro ls44, .c 82 [ls76]], rs := [(false, ls4)], shared := false, pre := fun (x : (List Slt) × Slt) => pContainsFunc_ShardOk_1 x.1 x.2, F := fun (x : (List Slt) × Slt) => mContainsFunc_ShardOk_1 x.1 x.2 }
theorem law40_82 : ∀ x : (List Slt) × Slt, pContainsFunc_ShardOk_1 x.1 x.2 → s_ContainsFunc_ShardOk_1 x.1 x.2 (fun r => r = mContainsFunc_ShardOk_1 x.1 x.2) := fun x h => ContainsFunc_ShardOk_1_ok x.1 x.2 h
theorem all40_82 (w : World) (hJ : J w) : CtAt Tryz.prog ct40_82 w :=
  ct_by ok40_82 (cs40_82 w hJ) Tryz.func40 (by kernel_rfl) (H := (hint [])) law40_82 (by kernel_rfl)
noncomputable def E84 : Env := { tt, eqs := [], cts := [] }
theorem ok84 : EnvOk Tryz.prog E84 := ⟨ttOk, by kernel_rfl, rfl, mixOk⟩
theorem cs84 (w0 : World) (hJ : J w0) : EnvCts Tryz.prog E84 w0 w0.heap.size := by
  refine ⟨fun c hc => ?_, fun c hc => ?_⟩
  · cases hc
  · cases hc
noncomputable def ct84 : Ct := { f := 84, ps := [.v false .ro ls44], rs := [(false, ls3)], shared := false, pre := fun (x : (List Slt)) => pBodies x, F := fun (x : (List Slt)) => mBodies x }
theorem law84 : ∀ x : (List Slt), pBodies x → s_impl_bodies x (fun r => r = mBodies x) := fun x h => impl_bodies_ok x h
theorem all84 (w : World) (hJ : J w) : CtAt Tryz.prog ct84 w :=
  ct_by ok84 (cs84 w hJ) Tryz.func84 (by kernel_rfl) (H := (hint [(3, [.val 3 (.int .i64), .val 8 (.int .i64)])])) law84 (by kernel_rfl)
noncomputable def E39 : Env := { tt, eqs := [], cts := [ct80, ct38, ct81, ct40_82, ct84] }
theorem ok39 : EnvOk Tryz.prog E39 := ⟨ttOk, by kernel_rfl, rfl, mixOk⟩
theorem cs39 (w0 : World) (hJ : J w0) : EnvCts Tryz.prog E39 w0 w0.heap.size := by
  refine ⟨fun c hc => ?_, fun c hc => ?_⟩
  · rcases List.mem_cons.1 hc with rfl | hc
    · exact fun w hb => all80 w (J_below hJ hb)
    rcases List.mem_cons.1 hc with rfl | hc
    · exact fun w hb => all38 w (J_below hJ hb)
    rcases List.mem_cons.1 hc with rfl | hc
    · exact fun w hb => all81 w (J_below hJ hb)
    rcases List.mem_cons.1 hc with rfl | hc
    · exact fun w hb => all40_82 w (J_below hJ hb)
    rcases List.mem_cons.1 hc with rfl | hc
    · exact fun w hb => all84 w (J_below hJ hb)
    cases hc
  · cases hc
noncomputable def ct39 : Ct := { f := 39, ps := [.v true .ro ls46], rs := [(false, ls4)], shared := false, pre := fun (x : Shd) => pShardOk x, F := fun (x : Shd) => mShardOk x }
theorem law39 : ∀ x : Shd, pShardOk x → s_impl_ShardOk x (fun r => r = mShardOk x) := fun x h => impl_ShardOk_ok x h
theorem all39 (w : World) (hJ : J w) : CtAt Tryz.prog ct39 w :=
  ct_by ok39 (cs39 w hJ) Tryz.func39 (by kernel_rfl) (H := (hint [(4, [.val 37 (.int .i64)])])) law39 (by kernel_rfl)
noncomputable def E86 : Env := { tt, eqs := [], cts := [] }
theorem ok86 : EnvOk Tryz.prog E86 := ⟨ttOk, by kernel_rfl, rfl, mixOk⟩
theorem cs86 (w0 : World) (hJ : J w0) : EnvCts Tryz.prog E86 w0 w0.heap.size := by
  refine ⟨fun c hc => ?_, fun c hc => ?_⟩
  · cases hc
  · cases hc
noncomputable def ct86 : Ct := { f := 86, ps := [.v false .ro ls9], rs := [(false, ls3)], shared := false, pre := fun (x : S) => pFnv x, F := fun (x : S) => mFnv x }
theorem law86 : ∀ x : S, pFnv x → s_impl_Fnv x (fun r => r = mFnv x) := fun x h => impl_Fnv_ok x h
theorem all86 (w : World) (hJ : J w) : CtAt Tryz.prog ct86 w :=
  ct_by ok86 (cs86 w hJ) Tryz.func86 (by kernel_rfl) (H := (hint [(3, [.val 3 (.int .i64), .val 7 (.int .i64)])])) law86 (by kernel_rfl)
noncomputable def E42 : Env := { tt, eqs := [], cts := [ct86] }
theorem ok42 : EnvOk Tryz.prog E42 := ⟨ttOk, by kernel_rfl, rfl, mixOk⟩
theorem cs42 (w0 : World) (hJ : J w0) : EnvCts Tryz.prog E42 w0 w0.heap.size := by
  refine ⟨fun c hc => ?_, fun c hc => ?_⟩
  · rcases List.mem_cons.1 hc with rfl | hc
    · exact fun w hb => all86 w (J_below hJ hb)
    cases hc
  · cases hc
noncomputable def ct42 : Ct := { f := 42, ps := [.v true .ro ls31, .v false .ro ls9], rs := [(false, ls3)], shared := false, pre := fun (x : Cch × S) => pShardOf x.1 x.2, F := fun (x : Cch × S) => mShardOf x.1 x.2 }
theorem law42 : ∀ x : Cch × S, pShardOf x.1 x.2 → s_impl_ShardOf x.1 x.2 (fun r => r = mShardOf x.1 x.2) := fun x h => impl_ShardOf_ok x.1 x.2 h
theorem all42 (w : World) (hJ : J w) : CtAt Tryz.prog ct42 w :=
  ct_by ok42 (cs42 w hJ) Tryz.func42 (by kernel_rfl) (H := (hint [])) law42 (by kernel_rfl)
noncomputable def E41 : Env := { tt, eqs := [], cts := [ct42] }
theorem ok41 : EnvOk Tryz.prog E41 := ⟨ttOk, by kernel_rfl, rfl, mixOk⟩
theorem cs41 (w0 : World) (hJ : J w0) : EnvCts Tryz.prog E41 w0 w0.heap.size := by
  refine ⟨fun c hc => ?_, fun c hc => ?_⟩
  · rcases List.mem_cons.1 hc with rfl | hc
    · exact fun w hb => all42 w (J_below hJ hb)
    cases hc
  · cases hc
noncomputable def ct41 : Ct := { f := 41, ps := [.v true .ro ls76, .p false ls31, .p false ls3], rs := [(false, ls4)], shared := false, pre := fun (x : Slt × Cch × Int) => pCacheOk_1 x.1 x.2.1 x.2.2, F := fun (x : Slt × Cch × Int) => mCacheOk_1 x.1 x.2.1 x.2.2 }
theorem law41 : ∀ x : Slt × Cch × Int, pCacheOk_1 x.1 x.2.1 x.2.2 → s_impl_CacheOk_1 x.1 x.2.1 x.2.2 (fun r => r = mCacheOk_1 x.1 x.2.1 x.2.2) := fun x h => impl_CacheOk_1_ok x.1 x.2.1 x.2.2 h
theorem all41 (w : World) (hJ : J w) : CtAt Tryz.prog ct41 w :=
  ct_by ok41 (cs41 w hJ) Tryz.func41 (by kernel_rfl) (H := (hint [])) law41 (by kernel_rfl)
noncomputable def E85_41 : Env := { tt, eqs := [], cts := [ct41] }
theorem ok85_41 : EnvOk Tryz.prog E85_41 := ⟨ttOk, by kernel_rfl, rfl, mixOk⟩
theorem cs85_41 (w0 : World) (hJ : J w0) : EnvCts Tryz.prog E85_41 w0 w0.heap.size := by
  refine ⟨fun c hc => ?_, fun c hc => ?_⟩
  · rcases List.mem_cons.1 hc with rfl | hc
    · exact fun w hb => all41 w (J_below hJ hb)
    cases hc
  · cases hc
noncomputable def ct85_41 : Ct := { f := 85, ps := [.v false .ro ls44, .c 41 [ls31, ls3]], rs := [(false, ls3)], shared := false, pre := fun (x : (List Slt) × (Cch × Int)) => pIndexFunc_CacheOk_1 x.1 x.2, F := fun (x : (List Slt) × (Cch × Int)) => mIndexFunc_CacheOk_1 x.1 x.2 }
theorem law85_41 : ∀ x : (List Slt) × (Cch × Int), pIndexFunc_CacheOk_1 x.1 x.2 → s_IndexFunc_CacheOk_1 x.1 x.2 (fun r => r = mIndexFunc_CacheOk_1 x.1 x.2) := fun x h => IndexFunc_CacheOk_1_ok x.1 x.2 h
theorem all85_41 (w : World) (hJ : J w) : CtAt Tryz.prog ct85_41 w :=
  ct_by ok85_41 (cs85_41 w hJ) Tryz.func85 (by kernel_rfl) (H := (hint [(2, [.val 8 (.int .i64)])])) law85_41 (by kernel_rfl)
noncomputable def E40_41 : Env := { tt, eqs := [], cts := [ct85_41] }
theorem ok40_41 : EnvOk Tryz.prog E40_41 := ⟨ttOk, by kernel_rfl, rfl, mixOk⟩
theorem cs40_41 (w0 : World) (hJ : J w0) : EnvCts Tryz.prog E40_41 w0 w0.heap.size := by
  refine ⟨fun c hc => ?_, fun c hc => ?_⟩
  · rcases List.mem_cons.1 hc with rfl | hc
    · exact fun w hb => all85_41 w (J_below hJ hb)
    cases hc
  · cases hc
noncomputable def ct40_41 : Ct := { f := 40, ps := [.v false .ro ls44, .c 41 [ls31, ls3]], rs := [(false, ls4)], shared := false, pre := fun (x : (List Slt) × (Cch × Int)) => pContainsFunc_CacheOk_1 x.1 x.2, F := fun (x : (List Slt) × (Cch × Int)) => mContainsFunc_CacheOk_1 x.1 x.2 }
theorem law40_41 : ∀ x : (List Slt) × (Cch × Int), pContainsFunc_CacheOk_1 x.1 x.2 → s_ContainsFunc_CacheOk_1 x.1 x.2 (fun r => r = mContainsFunc_CacheOk_1 x.1 x.2) := fun x h => ContainsFunc_CacheOk_1_ok x.1 x.2 h
theorem all40_41 (w : World) (hJ : J w) : CtAt Tryz.prog ct40_41 w :=
  ct_by ok40_41 (cs40_41 w hJ) Tryz.func40 (by kernel_rfl) (H := (hint [])) law40_41 (by kernel_rfl)
noncomputable def E11 : Env := { tt, eqs := [], cts := [ct38, ct39, ct40_41, ct43] }
theorem ok11 : EnvOk Tryz.prog E11 := ⟨ttOk, by kernel_rfl, rfl, mixOk⟩
theorem cs11 (w0 : World) (hJ : J w0) : EnvCts Tryz.prog E11 w0 w0.heap.size := by
  refine ⟨fun c hc => ?_, fun c hc => ?_⟩
  · rcases List.mem_cons.1 hc with rfl | hc
    · exact fun w hb => all38 w (J_below hJ hb)
    rcases List.mem_cons.1 hc with rfl | hc
    · exact fun w hb => all39 w (J_below hJ hb)
    rcases List.mem_cons.1 hc with rfl | hc
    · exact fun w hb => all40_41 w (J_below hJ hb)
    rcases List.mem_cons.1 hc with rfl | hc
    · exact fun w hb => all43 w (J_below hJ hb)
    cases hc
  · cases hc
noncomputable def ct11 : Ct := { f := 11, ps := [.v true .ro ls31], rs := [(false, ls4)], shared := false, pre := fun (x : Cch) => pCacheOk x, F := fun (x : Cch) => mCacheOk x }
theorem law11 : ∀ x : Cch, pCacheOk x → s_impl_CacheOk x (fun r => r = mCacheOk x) := fun x h => impl_CacheOk_ok x h
theorem all11 (w : World) (hJ : J w) : CtAt Tryz.prog ct11 w :=
  ct_by ok11 (cs11 w hJ) Tryz.func11 (by kernel_rfl) (H := (hint [(4, [.val 15 (.int .i64)]), (10, [.val 33 (.int .i64)])])) law11 (by kernel_rfl)
noncomputable def E97 : Env := { tt, eqs := [], cts := [] }
theorem ok97 : EnvOk Tryz.prog E97 := ⟨ttOk, by kernel_rfl, rfl, mixOk⟩
theorem cs97 (w0 : World) (hJ : J w0) : EnvCts Tryz.prog E97 w0 w0.heap.size := by
  refine ⟨fun c hc => ?_, fun c hc => ?_⟩
  · cases hc
  · cases hc
noncomputable def ct97 : Ct := { f := 97, ps := [.v true .ro ls126, .v true .ro ls126], rs := [(false, [.bool])], shared := false, pre := fun (q : Fld × Fld) => pEq q.1 q.2, F := fun (q : Fld × Fld) => eqF q.1 q.2 }
def st97 : List (EqStep Fld) := [.ne (fun (x y : Fld) => x.1 ≠ y.1), .ne (fun (x y : Fld) => x.2 ≠ y.2)]
def mk97 (a0 : S) (a1 : S) : Fld := (a0, a1)
theorem a97 (x y : Fld) : eqAll x y st97 ↔ x = y := by
  constructor
  · rintro ⟨h0, h1, -⟩
    have h0 : x.1 = y.1 := Classical.byContradiction h0
    have h1 : x.2 = y.2 := Classical.byContradiction h1
    show mk97 (x.1) (x.2) = mk97 (y.1) (y.2)
    rw [h0, h1]
    all_goals rfl
  · rintro rfl
    exact ⟨fun h => h rfl, fun h => h rfl, trivial⟩
theorem w97 (x y : Fld) (h : wd x) : eqFine x y st97 := by
  first | simp only [wd_pair] at h | skip
  simp only [eqFine, st97, wd_pair]
  all_goals simp only [h, and_self]
theorem law97 : ∀ q : Fld × Fld, pEq q.1 q.2 → eqSt q.1 q.2 st97 (fun r => r = eqF q.1 q.2) := fun q hq => eqSt_holds q.1 q.2 st97 (w97 q.1 q.2 hq) (eqF_iff.trans (a97 q.1 q.2).symm)
theorem all97 (w : World) (hJ : J w) : CtAt Tryz.prog ct97 w :=
  ct_by ok97 (cs97 w hJ) Tryz.func97 (by kernel_rfl) (H := (hint [])) law97 (by kernel_rfl)
noncomputable def E53 : Env := { tt, eqs := [], cts := [ct97] }
theorem ok53 : EnvOk Tryz.prog E53 := ⟨ttOk, by kernel_rfl, rfl, mixOk⟩
theorem cs53 (w0 : World) (hJ : J w0) : EnvCts Tryz.prog E53 w0 w0.heap.size := by
  refine ⟨fun c hc => ?_, fun c hc => ?_⟩
  · rcases List.mem_cons.1 hc with rfl | hc
    · exact fun w hb => all97 w (J_below hJ hb)
    cases hc
  · cases hc
noncomputable def ct53 : Ct := { f := 53, ps := [.v false .ro ls48, .v false .ro ls48], rs := [(false, [.bool])], shared := false, pre := fun (q : (List Fld) × (List Fld)) => pEq q.1 q.2, F := fun (q : (List Fld) × (List Fld)) => eqF q.1 q.2 }
theorem law53 : ∀ q : (List Fld) × (List Fld), pEq q.1 q.2 → eqS (α := Fld) Dft.dft (fun a b => pEq a b) (fun a b => eqF a b) q.1 q.2 (fun r => r = eqF q.1 q.2) := fun q hq => eqS_holds (α := Fld) Dft.dft (fun a b => pEq a b) (fun a b => eqF a b) q.1 q.2 hq.1 (fun i a _ h => hq.2 i a h) (fun _ _ => eqF_iff) eqF_iff
theorem all53 (w : World) (hJ : J w) : CtAt Tryz.prog ct53 w :=
  ct_by ok53 (cs53 w hJ) Tryz.func53 (by kernel_rfl) (H := (hint [(4, [.val 5 (.int .i64)])])) law53 (by kernel_rfl)
noncomputable def E27 : Env := { tt, eqs := [], cts := [ct53] }
theorem ok27 : EnvOk Tryz.prog E27 := ⟨ttOk, by kernel_rfl, rfl, mixOk⟩
theorem cs27 (w0 : World) (hJ : J w0) : EnvCts Tryz.prog E27 w0 w0.heap.size := by
  refine ⟨fun c hc => ?_, fun c hc => ?_⟩
  · rcases List.mem_cons.1 hc with rfl | hc
    · exact fun w hb => all53 w (J_below hJ hb)
    cases hc
  · cases hc
noncomputable def ct27 : Ct := { f := 27, ps := [.v true .ro ls62, .v true .ro ls62], rs := [(false, [.bool])], shared := false, pre := fun (q : Rsp × Rsp) => pEq q.1 q.2, F := fun (q : Rsp × Rsp) => eqF q.1 q.2 }
def st27 : List (EqStep Rsp) := [.ne (fun (x y : Rsp) => x.1 ≠ y.1), .call (fun (x _ : Rsp) => wd (x.2.1 : (List Fld))) (fun (x y : Rsp) => eqF (x.2.1 : (List Fld)) y.2.1), .ne (fun (x y : Rsp) => x.2.2 ≠ y.2.2)]
def mk27 (a0 : Int) (a1 : (List Fld)) (a2 : S) : Rsp := (a0, a1, a2)
theorem a27 (x y : Rsp) : eqAll x y st27 ↔ x = y := by
  constructor
  · rintro ⟨h0, h1, h2, -⟩
    have h0 : x.1 = y.1 := Classical.byContradiction h0
    have h1 : (x.2.1 : (List Fld)) = y.2.1 := eqF_iff.1 h1
    have h2 : x.2.2 = y.2.2 := Classical.byContradiction h2
    show mk27 (x.1) (x.2.1) (x.2.2) = mk27 (y.1) (y.2.1) (y.2.2)
    rw [h0, h1, h2]
    all_goals rfl
  · rintro rfl
    exact ⟨fun h => h rfl, eqF_iff.2 rfl, fun h => h rfl, trivial⟩
theorem w27 (x y : Rsp) (h : wd x) : eqFine x y st27 := by
  first | simp only [wd_pair] at h | skip
  simp only [eqFine, st27, wd_pair]
  all_goals simp only [h, and_self]
theorem law27 : ∀ q : Rsp × Rsp, pEq q.1 q.2 → eqSt q.1 q.2 st27 (fun r => r = eqF q.1 q.2) := fun q hq => eqSt_holds q.1 q.2 st27 (w27 q.1 q.2 hq) (eqF_iff.trans (a27 q.1 q.2).symm)
theorem all27 (w : World) (hJ : J w) : CtAt Tryz.prog ct27 w :=
  ct_by ok27 (cs27 w hJ) Tryz.func27 (by kernel_rfl) (H := (hint [])) law27 (by kernel_rfl)
noncomputable def E126 : Env := { tt, eqs := [], cts := [ct53, ct27] }
theorem ok126 : EnvOk Tryz.prog E126 := ⟨ttOk, by kernel_rfl, rfl, mixOk⟩
theorem cs126 (w0 : World) (hJ : J w0) : EnvCts Tryz.prog E126 w0 w0.heap.size := by
  refine ⟨fun c hc => ?_, fun c hc => ?_⟩
  · rcases List.mem_cons.1 hc with rfl | hc
    · exact fun w hb => all53 w (J_below hJ hb)
    rcases List.mem_cons.1 hc with rfl | hc
    · exact fun w hb => all27 w (J_below hJ hb)
    cases hc
  · cases hc
noncomputable def ct126 : Ct := { f := 126, ps := [.v true .ro ls74, .v true .ro ls74], rs := [(false, [.bool])], shared := false, pre := fun (q : Sto × Sto) => pEq q.1 q.2, F := fun (q : Sto × Sto) => eqF q.1 q.2 }
def st126 : List (EqStep Sto) := [.ne (fun (x y : Sto) => x.1 ≠ y.1), .call (fun (x _ : Sto) => wd (x.2.1 : (List Fld))) (fun (x y : Sto) => eqF (x.2.1 : (List Fld)) y.2.1), .call (fun (x _ : Sto) => wd ((x.2.2.1, x.2.2.2.1, x.2.2.2.2.1) : Rsp)) (fun (x y : Sto) => eqF ((x.2.2.1, x.2.2.2.1, x.2.2.2.2.1) : Rsp) (y.2.2.1, y.2.2.2.1, y.2.2.2.2.1)), .ne (fun (x y : Sto) => x.2.2.2.2.2.1 ≠ y.2.2.2.2.2.1), .ne (fun (x y : Sto) => x.2.2.2.2.2.2 ≠ y.2.2.2.2.2.2)]
def mk126 (a0 : S) (a1 : (List Fld)) (a2 : Rsp) (a3 : Int) (a4 : Int) : Sto := (a0, a1, a2.1, a2.2.1, a2.2.2, a3, a4)
theorem a126 (x y : Sto) : eqAll x y st126 ↔ x = y := by
  constructor
  · rintro ⟨h0, h1, h2, h3, h4, -⟩
    have h0 : x.1 = y.1 := Classical.byContradiction h0
    have h1 : (x.2.1 : (List Fld)) = y.2.1 := eqF_iff.1 h1
    have h2 : ((x.2.2.1, x.2.2.2.1, x.2.2.2.2.1) : Rsp) = (y.2.2.1, y.2.2.2.1, y.2.2.2.2.1) := eqF_iff.1 h2
    have h3 : x.2.2.2.2.2.1 = y.2.2.2.2.2.1 := Classical.byContradiction h3
    have h4 : x.2.2.2.2.2.2 = y.2.2.2.2.2.2 := Classical.byContradiction h4
    show mk126 (x.1) (x.2.1) ((x.2.2.1, x.2.2.2.1, x.2.2.2.2.1)) (x.2.2.2.2.2.1) (x.2.2.2.2.2.2) = mk126 (y.1) (y.2.1) ((y.2.2.1, y.2.2.2.1, y.2.2.2.2.1)) (y.2.2.2.2.2.1) (y.2.2.2.2.2.2)
    rw [h0, h1, h2, h3, h4]
    all_goals rfl
  · rintro rfl
    exact ⟨fun h => h rfl, eqF_iff.2 rfl, eqF_iff.2 rfl, fun h => h rfl, fun h => h rfl, trivial⟩
theorem w126 (x y : Sto) (h : wd x) : eqFine x y st126 := by
  first | simp only [wd_pair] at h | skip
  simp only [eqFine, st126, wd_pair]
  all_goals simp only [h, and_self]
theorem law126 : ∀ q : Sto × Sto, pEq q.1 q.2 → eqSt q.1 q.2 st126 (fun r => r = eqF q.1 q.2) := fun q hq => eqSt_holds q.1 q.2 st126 (w126 q.1 q.2 hq) (eqF_iff.trans (a126 q.1 q.2).symm)
theorem all126 (w : World) (hJ : J w) : CtAt Tryz.prog ct126 w :=
  ct_by ok126 (cs126 w hJ) Tryz.func126 (by kernel_rfl) (H := (hint [])) law126 (by kernel_rfl)
noncomputable def E96 : Env := { tt, eqs := [], cts := [ct126] }
theorem ok96 : EnvOk Tryz.prog E96 := ⟨ttOk, by kernel_rfl, rfl, mixOk⟩
theorem cs96 (w0 : World) (hJ : J w0) : EnvCts Tryz.prog E96 w0 w0.heap.size := by
  refine ⟨fun c hc => ?_, fun c hc => ?_⟩
  · rcases List.mem_cons.1 hc with rfl | hc
    · exact fun w hb => all126 w (J_below hJ hb)
    cases hc
  · cases hc
noncomputable def ct96 : Ct := { f := 96, ps := [.v true .ro ls76, .v true .ro ls76], rs := [(false, [.bool])], shared := false, pre := fun (q : Slt × Slt) => pEq q.1 q.2, F := fun (q : Slt × Slt) => eqF q.1 q.2 }
def st96 : List (EqStep Slt) := [.call (fun (x _ : Slt) => wd ((x.1, x.2.1, x.2.2.1, x.2.2.2.1, x.2.2.2.2.1, x.2.2.2.2.2.1, x.2.2.2.2.2.2.1) : Sto)) (fun (x y : Slt) => eqF ((x.1, x.2.1, x.2.2.1, x.2.2.2.1, x.2.2.2.2.1, x.2.2.2.2.2.1, x.2.2.2.2.2.2.1) : Sto) (y.1, y.2.1, y.2.2.1, y.2.2.2.1, y.2.2.2.2.1, y.2.2.2.2.2.1, y.2.2.2.2.2.2.1)), .ne (fun (x y : Slt) => x.2.2.2.2.2.2.2 ≠ y.2.2.2.2.2.2.2)]
def mk96 (a0 : Sto) (a1 : Bool) : Slt := (a0.1, a0.2.1, a0.2.2.1, a0.2.2.2.1, a0.2.2.2.2.1, a0.2.2.2.2.2.1, a0.2.2.2.2.2.2, a1)
theorem a96 (x y : Slt) : eqAll x y st96 ↔ x = y := by
  constructor
  · rintro ⟨h0, h1, -⟩
    have h0 : ((x.1, x.2.1, x.2.2.1, x.2.2.2.1, x.2.2.2.2.1, x.2.2.2.2.2.1, x.2.2.2.2.2.2.1) : Sto) = (y.1, y.2.1, y.2.2.1, y.2.2.2.1, y.2.2.2.2.1, y.2.2.2.2.2.1, y.2.2.2.2.2.2.1) := eqF_iff.1 h0
    have h1 : x.2.2.2.2.2.2.2 = y.2.2.2.2.2.2.2 := Classical.byContradiction h1
    show mk96 ((x.1, x.2.1, x.2.2.1, x.2.2.2.1, x.2.2.2.2.1, x.2.2.2.2.2.1, x.2.2.2.2.2.2.1)) (x.2.2.2.2.2.2.2) = mk96 ((y.1, y.2.1, y.2.2.1, y.2.2.2.1, y.2.2.2.2.1, y.2.2.2.2.2.1, y.2.2.2.2.2.2.1)) (y.2.2.2.2.2.2.2)
    rw [h0, h1]
    all_goals rfl
  · rintro rfl
    exact ⟨eqF_iff.2 rfl, fun h => h rfl, trivial⟩
theorem w96 (x y : Slt) (h : wd x) : eqFine x y st96 := by
  first | simp only [wd_pair] at h | skip
  simp only [eqFine, st96, wd_pair]
  all_goals simp only [h, and_self]
theorem law96 : ∀ q : Slt × Slt, pEq q.1 q.2 → eqSt q.1 q.2 st96 (fun r => r = eqF q.1 q.2) := fun q hq => eqSt_holds q.1 q.2 st96 (w96 q.1 q.2 hq) (eqF_iff.trans (a96 q.1 q.2).symm)
theorem all96 (w : World) (hJ : J w) : CtAt Tryz.prog ct96 w :=
  ct_by ok96 (cs96 w hJ) Tryz.func96 (by kernel_rfl) (H := (hint [])) law96 (by kernel_rfl)
noncomputable def E52 : Env := { tt, eqs := [], cts := [ct96] }
theorem ok52 : EnvOk Tryz.prog E52 := ⟨ttOk, by kernel_rfl, rfl, mixOk⟩
theorem cs52 (w0 : World) (hJ : J w0) : EnvCts Tryz.prog E52 w0 w0.heap.size := by
  refine ⟨fun c hc => ?_, fun c hc => ?_⟩
  · rcases List.mem_cons.1 hc with rfl | hc
    · exact fun w hb => all96 w (J_below hJ hb)
    cases hc
  · cases hc
noncomputable def ct52 : Ct := { f := 52, ps := [.v false .ro ls44, .v false .ro ls44], rs := [(false, [.bool])], shared := false, pre := fun (q : (List Slt) × (List Slt)) => pEq q.1 q.2, F := fun (q : (List Slt) × (List Slt)) => eqF q.1 q.2 }
theorem law52 : ∀ q : (List Slt) × (List Slt), pEq q.1 q.2 → eqS (α := Slt) Dft.dft (fun a b => pEq a b) (fun a b => eqF a b) q.1 q.2 (fun r => r = eqF q.1 q.2) := fun q hq => eqS_holds (α := Slt) Dft.dft (fun a b => pEq a b) (fun a b => eqF a b) q.1 q.2 hq.1 (fun i a _ h => hq.2 i a h) (fun _ _ => eqF_iff) eqF_iff
theorem all52 (w : World) (hJ : J w) : CtAt Tryz.prog ct52 w :=
  ct_by ok52 (cs52 w hJ) Tryz.func52 (by kernel_rfl) (H := (hint [(4, [.val 5 (.int .i64)])])) law52 (by kernel_rfl)
noncomputable def E19 : Env := { tt, eqs := [], cts := [ct52] }
theorem ok19 : EnvOk Tryz.prog E19 := ⟨ttOk, by kernel_rfl, rfl, mixOk⟩
theorem cs19 (w0 : World) (hJ : J w0) : EnvCts Tryz.prog E19 w0 w0.heap.size := by
  refine ⟨fun c hc => ?_, fun c hc => ?_⟩
  · rcases List.mem_cons.1 hc with rfl | hc
    · exact fun w hb => all52 w (J_below hJ hb)
    cases hc
  · cases hc
noncomputable def ct19 : Ct := { f := 19, ps := [.v true .ro ls46, .v true .ro ls46], rs := [(false, [.bool])], shared := false, pre := fun (q : Shd × Shd) => pEq q.1 q.2, F := fun (q : Shd × Shd) => eqF q.1 q.2 }
def st19 : List (EqStep Shd) := [.ne (fun (x y : Shd) => x.1 ≠ y.1), .ne (fun (x y : Shd) => x.2.1 ≠ y.2.1), .call (fun (x _ : Shd) => wd (x.2.2.1 : (List Slt))) (fun (x y : Shd) => eqF (x.2.2.1 : (List Slt)) y.2.2.1), .ne (fun (x y : Shd) => x.2.2.2 ≠ y.2.2.2)]
def mk19 (a0 : Int) (a1 : Int) (a2 : (List Slt)) (a3 : Int) : Shd := (a0, a1, a2, a3)
theorem a19 (x y : Shd) : eqAll x y st19 ↔ x = y := by
  constructor
  · rintro ⟨h0, h1, h2, h3, -⟩
    have h0 : x.1 = y.1 := Classical.byContradiction h0
    have h1 : x.2.1 = y.2.1 := Classical.byContradiction h1
    have h2 : (x.2.2.1 : (List Slt)) = y.2.2.1 := eqF_iff.1 h2
    have h3 : x.2.2.2 = y.2.2.2 := Classical.byContradiction h3
    show mk19 (x.1) (x.2.1) (x.2.2.1) (x.2.2.2) = mk19 (y.1) (y.2.1) (y.2.2.1) (y.2.2.2)
    rw [h0, h1, h2, h3]
    all_goals rfl
  · rintro rfl
    exact ⟨fun h => h rfl, fun h => h rfl, eqF_iff.2 rfl, fun h => h rfl, trivial⟩
theorem w19 (x y : Shd) (h : wd x) : eqFine x y st19 := by
  first | simp only [wd_pair] at h | skip
  simp only [eqFine, st19, wd_pair]
  all_goals simp only [h, and_self]
theorem law19 : ∀ q : Shd × Shd, pEq q.1 q.2 → eqSt q.1 q.2 st19 (fun r => r = eqF q.1 q.2) := fun q hq => eqSt_holds q.1 q.2 st19 (w19 q.1 q.2 hq) (eqF_iff.trans (a19 q.1 q.2).symm)
theorem all19 (w : World) (hJ : J w) : CtAt Tryz.prog ct19 w :=
  ct_by ok19 (cs19 w hJ) Tryz.func19 (by kernel_rfl) (H := (hint [])) law19 (by kernel_rfl)
noncomputable def E44 : Env := { tt, eqs := [], cts := [ct19] }
theorem ok44 : EnvOk Tryz.prog E44 := ⟨ttOk, by kernel_rfl, rfl, mixOk⟩
theorem cs44 (w0 : World) (hJ : J w0) : EnvCts Tryz.prog E44 w0 w0.heap.size := by
  refine ⟨fun c hc => ?_, fun c hc => ?_⟩
  · rcases List.mem_cons.1 hc with rfl | hc
    · exact fun w hb => all19 w (J_below hJ hb)
    cases hc
  · cases hc
noncomputable def ct44 : Ct := { f := 44, ps := [.v false .ro ls28, .v false .ro ls28], rs := [(false, [.bool])], shared := false, pre := fun (q : (List Shd) × (List Shd)) => pEq q.1 q.2, F := fun (q : (List Shd) × (List Shd)) => eqF q.1 q.2 }
theorem law44 : ∀ q : (List Shd) × (List Shd), pEq q.1 q.2 → eqS (α := Shd) Dft.dft (fun a b => pEq a b) (fun a b => eqF a b) q.1 q.2 (fun r => r = eqF q.1 q.2) := fun q hq => eqS_holds (α := Shd) Dft.dft (fun a b => pEq a b) (fun a b => eqF a b) q.1 q.2 hq.1 (fun i a _ h => hq.2 i a h) (fun _ _ => eqF_iff) eqF_iff
theorem all44 (w : World) (hJ : J w) : CtAt Tryz.prog ct44 w :=
  ct_by ok44 (cs44 w hJ) Tryz.func44 (by kernel_rfl) (H := (hint [(4, [.val 5 (.int .i64)])])) law44 (by kernel_rfl)
noncomputable def E87 : Env := { tt, eqs := [], cts := [] }
theorem ok87 : EnvOk Tryz.prog E87 := ⟨ttOk, by kernel_rfl, rfl, mixOk⟩
theorem cs87 (w0 : World) (hJ : J w0) : EnvCts Tryz.prog E87 w0 w0.heap.size := by
  refine ⟨fun c hc => ?_, fun c hc => ?_⟩
  · cases hc
  · cases hc
noncomputable def ct87 : Ct := { f := 87, ps := [.v true .ro ls79, .v true .ro ls79], rs := [(false, [.bool])], shared := false, pre := fun (q : Gen × Gen) => pEq q.1 q.2, F := fun (q : Gen × Gen) => eqF q.1 q.2 }
def st87 : List (EqStep Gen) := [.ne (fun (x y : Gen) => x.1 ≠ y.1), .ne (fun (x y : Gen) => x.2 ≠ y.2)]
def mk87 (a0 : S) (a1 : Int) : Gen := (a0, a1)
theorem a87 (x y : Gen) : eqAll x y st87 ↔ x = y := by
  constructor
  · rintro ⟨h0, h1, -⟩
    have h0 : x.1 = y.1 := Classical.byContradiction h0
    have h1 : x.2 = y.2 := Classical.byContradiction h1
    show mk87 (x.1) (x.2) = mk87 (y.1) (y.2)
    rw [h0, h1]
    all_goals rfl
  · rintro rfl
    exact ⟨fun h => h rfl, fun h => h rfl, trivial⟩
theorem w87 (x y : Gen) (h : wd x) : eqFine x y st87 := by
  first | simp only [wd_pair] at h | skip
  simp only [eqFine, st87, wd_pair]
  all_goals simp only [h, and_self]
theorem law87 : ∀ q : Gen × Gen, pEq q.1 q.2 → eqSt q.1 q.2 st87 (fun r => r = eqF q.1 q.2) := fun q hq => eqSt_holds q.1 q.2 st87 (w87 q.1 q.2 hq) (eqF_iff.trans (a87 q.1 q.2).symm)
theorem all87 (w : World) (hJ : J w) : CtAt Tryz.prog ct87 w :=
  ct_by ok87 (cs87 w hJ) Tryz.func87 (by kernel_rfl) (H := (hint [])) law87 (by kernel_rfl)
noncomputable def E45 : Env := { tt, eqs := [], cts := [ct87] }
theorem ok45 : EnvOk Tryz.prog E45 := ⟨ttOk, by kernel_rfl, rfl, mixOk⟩
theorem cs45 (w0 : World) (hJ : J w0) : EnvCts Tryz.prog E45 w0 w0.heap.size := by
  refine ⟨fun c hc => ?_, fun c hc => ?_⟩
  · rcases List.mem_cons.1 hc with rfl | hc
    · exact fun w hb => all87 w (J_below hJ hb)
    cases hc
  · cases hc
noncomputable def ct45 : Ct := { f := 45, ps := [.v false .ro ls29, .v false .ro ls29], rs := [(false, [.bool])], shared := false, pre := fun (q : (List Gen) × (List Gen)) => pEq q.1 q.2, F := fun (q : (List Gen) × (List Gen)) => eqF q.1 q.2 }
theorem law45 : ∀ q : (List Gen) × (List Gen), pEq q.1 q.2 → eqS (α := Gen) Dft.dft (fun a b => pEq a b) (fun a b => eqF a b) q.1 q.2 (fun r => r = eqF q.1 q.2) := fun q hq => eqS_holds (α := Gen) Dft.dft (fun a b => pEq a b) (fun a b => eqF a b) q.1 q.2 hq.1 (fun i a _ h => hq.2 i a h) (fun _ _ => eqF_iff) eqF_iff
theorem all45 (w : World) (hJ : J w) : CtAt Tryz.prog ct45 w :=
  ct_by ok45 (cs45 w hJ) Tryz.func45 (by kernel_rfl) (H := (hint [(4, [.val 5 (.int .i64)])])) law45 (by kernel_rfl)
noncomputable def E12 : Env := { tt, eqs := [], cts := [ct44, ct45] }
theorem ok12 : EnvOk Tryz.prog E12 := ⟨ttOk, by kernel_rfl, rfl, mixOk⟩
theorem cs12 (w0 : World) (hJ : J w0) : EnvCts Tryz.prog E12 w0 w0.heap.size := by
  refine ⟨fun c hc => ?_, fun c hc => ?_⟩
  · rcases List.mem_cons.1 hc with rfl | hc
    · exact fun w hb => all44 w (J_below hJ hb)
    rcases List.mem_cons.1 hc with rfl | hc
    · exact fun w hb => all45 w (J_below hJ hb)
    cases hc
  · cases hc
noncomputable def ct12 : Ct := { f := 12, ps := [.v true .ro ls31, .v true .ro ls31], rs := [(false, [.bool])], shared := false, pre := fun (q : Cch × Cch) => pEq q.1 q.2, F := fun (q : Cch × Cch) => eqF q.1 q.2 }
def st12 : List (EqStep Cch) := [.call (fun (x _ : Cch) => wd (x.1 : (List Shd))) (fun (x y : Cch) => eqF (x.1 : (List Shd)) y.1), .call (fun (x _ : Cch) => wd (x.2 : (List Gen))) (fun (x y : Cch) => eqF (x.2 : (List Gen)) y.2)]
def mk12 (a0 : (List Shd)) (a1 : (List Gen)) : Cch := (a0, a1)
theorem a12 (x y : Cch) : eqAll x y st12 ↔ x = y := by
  constructor
  · rintro ⟨h0, h1, -⟩
    have h0 : (x.1 : (List Shd)) = y.1 := eqF_iff.1 h0
    have h1 : (x.2 : (List Gen)) = y.2 := eqF_iff.1 h1
    show mk12 (x.1) (x.2) = mk12 (y.1) (y.2)
    rw [h0, h1]
    all_goals rfl
  · rintro rfl
    exact ⟨eqF_iff.2 rfl, eqF_iff.2 rfl, trivial⟩
theorem w12 (x y : Cch) (h : wd x) : eqFine x y st12 := by
  first | simp only [wd_pair] at h | skip
  simp only [eqFine, st12, wd_pair]
  all_goals simp only [h, and_self]
theorem law12 : ∀ q : Cch × Cch, pEq q.1 q.2 → eqSt q.1 q.2 st12 (fun r => r = eqF q.1 q.2) := fun q hq => eqSt_holds q.1 q.2 st12 (w12 q.1 q.2 hq) (eqF_iff.trans (a12 q.1 q.2).symm)
theorem all12 (w : World) (hJ : J w) : CtAt Tryz.prog ct12 w :=
  ct_by ok12 (cs12 w hJ) Tryz.func12 (by kernel_rfl) (H := (hint [])) law12 (by kernel_rfl)
noncomputable def E14 : Env := { tt, eqs := [], cts := [ct47] }
theorem ok14 : EnvOk Tryz.prog E14 := ⟨ttOk, by kernel_rfl, rfl, mixOk⟩
theorem cs14 (w0 : World) (hJ : J w0) : EnvCts Tryz.prog E14 w0 w0.heap.size := by
  refine ⟨fun c hc => ?_, fun c hc => ?_⟩
  · rcases List.mem_cons.1 hc with rfl | hc
    · exact fun w hb => all47 w (J_below hJ hb)
    cases hc
  · cases hc
noncomputable def ct14 : Ct := { f := 14, ps := [.v true .ro ls40, .v false .ro [.int .i64]], rs := [(false, [.int .i64])], shared := false, pre := fun (q : Req × Int) => pSz q.1 q.2, F := fun (q : Req × Int) => szF q.1 q.2 }
def st14 : List (SzStep Req) := [.str (fun x : Req => x.1), .str (fun x : Req => x.2.1), .call (fun x : Req => wd (x.2.2.1 : (List Fld))) (fun x : Req => cz (x.2.2.1 : (List Fld))), .str (fun x : Req => x.2.2.2)]
theorem c14 (x : Req) : szSum x st14 = cz x := by
  simp only [szSum, st14, cz_pair, cz_int, cz_bool, cz_str]
  all_goals omega
theorem w14 (x : Req) (h : wd x) : szFine x st14 := by
  first | simp only [wd_pair] at h | skip
  simp only [szFine, st14, wd_pair, wf_wd]
  simp only [h, and_self]
theorem law14 : ∀ q : Req × Int, pSz q.1 q.2 → szSt q.1 st14 q.2 (fun r => r = szF q.1 q.2) := fun q hq => szSt_holds q.1 st14 q.2 _ (w14 q.1 hq.1) hq.2.1 hq.2.2 (c14 q.1)
theorem all14 (w : World) (hJ : J w) : CtAt Tryz.prog ct14 w :=
  ct_by ok14 (cs14 w hJ) Tryz.func14 (by kernel_rfl) (H := (hint [])) law14 (by kernel_rfl)
noncomputable def E17 : Env := { tt, eqs := [], cts := [ct50] }
theorem ok17 : EnvOk Tryz.prog E17 := ⟨ttOk, by kernel_rfl, rfl, mixOk⟩
theorem cs17 (w0 : World) (hJ : J w0) : EnvCts Tryz.prog E17 w0 w0.heap.size := by
  refine ⟨fun c hc => ?_, fun c hc => ?_⟩
  · rcases List.mem_cons.1 hc with rfl | hc
    · exact fun w hb => all50 w (J_below hJ hb)
    cases hc
  · cases hc
noncomputable def ct17 : Ct := { f := 17, ps := [.v true .ro ls40], rs := [(true, ls50)], shared := false, pre := fun (x : Req) => pTo x, F := fun (x : Req) => toF x }
theorem law17 : ∀ q : Req, pTo q → conj [pTo (q.2.2.1 : (List Fld))] (q = toF q) := fun q hq => ⟨(czh (czt (czt hq))), rfl⟩
theorem all17 (w : World) (hJ : J w) : CtAt Tryz.prog ct17 w :=
  ct_by ok17 (cs17 w hJ) Tryz.func17 (by kernel_rfl) (H := (hint [])) law17 (by kernel_rfl)
noncomputable def E55 : Env := { tt, eqs := [], cts := [ct98] }
theorem ok55 : EnvOk Tryz.prog E55 := ⟨ttOk, by kernel_rfl, rfl, mixOk⟩
theorem cs55 (w0 : World) (hJ : J w0) : EnvCts Tryz.prog E55 w0 w0.heap.size := by
  refine ⟨fun c hc => ?_, fun c hc => ?_⟩
  · rcases List.mem_cons.1 hc with rfl | hc
    · exact fun w hb => all98 w (J_below hJ hb)
    cases hc
  · cases hc
noncomputable def ct55 : Ct := { f := 55, ps := [.v false .ro ls9], rs := [(false, ls95)], shared := false, pre := fun (x : S) => pSplitList x, F := fun (x : S) => mSplitList x }
theorem law55 : ∀ x : S, pSplitList x → s_spec_SplitList x (fun r => r = mSplitList x) := fun x h => spec_SplitList_ok x h
theorem all55 (w : World) (hJ : J w) : CtAt Tryz.prog ct55 w :=
  ct_by ok55 (cs55 w hJ) Tryz.func55 (by kernel_rfl) (H := (hint [(5, [.reg 3 9 [.str] true, .val 4 (.int .i64), .val 5 (.bool), .val 6 (.int .i64)])])) law55 (by kernel_rfl)
noncomputable def E120 : Env := { tt, eqs := [], cts := [ct54, ct55, ct143] }
theorem ok120 : EnvOk Tryz.prog E120 := ⟨ttOk, by kernel_rfl, rfl, mixOk⟩
theorem cs120 (w0 : World) (hJ : J w0) : EnvCts Tryz.prog E120 w0 w0.heap.size := by
  refine ⟨fun c hc => ?_, fun c hc => ?_⟩
  · rcases List.mem_cons.1 hc with rfl | hc
    · exact fun w hb => all54 w (J_below hJ hb)
    rcases List.mem_cons.1 hc with rfl | hc
    · exact fun w hb => all55 w (J_below hJ hb)
    rcases List.mem_cons.1 hc with rfl | hc
    · exact fun w hb => all143 w (J_below hJ hb)
    cases hc
  · cases hc
noncomputable def ct120 : Ct := { f := 120, ps := [.v true .ro ls62], rs := [(false, ls95)], shared := false, pre := fun (x : Rsp) => pVaryNames x, F := fun (x : Rsp) => mVaryNames x }
theorem law120 : ∀ x : Rsp, pVaryNames x → s_spec_VaryNames x (fun r => r = mVaryNames x) := fun x h => spec_VaryNames_ok x h
theorem all120 (w : World) (hJ : J w) : CtAt Tryz.prog ct120 w :=
  ct_by ok120 (cs120 w hJ) Tryz.func120 (by kernel_rfl) (H := (hint [(5, [.reg 3 9 [.str] true, .val 7 (.int .i64)]), (10, [.val 9 (.bool), .val 10 (.int .i64)])])) law120 (by kernel_rfl)
noncomputable def E121 : Env := { tt, eqs := [], cts := [ct55] }
theorem ok121 : EnvOk Tryz.prog E121 := ⟨ttOk, by kernel_rfl, rfl, mixOk⟩
theorem cs121 (w0 : World) (hJ : J w0) : EnvCts Tryz.prog E121 w0 w0.heap.size := by
  refine ⟨fun c hc => ?_, fun c hc => ?_⟩
  · rcases List.mem_cons.1 hc with rfl | hc
    · exact fun w hb => all55 w (J_below hJ hb)
    cases hc
  · cases hc
noncomputable def ct121 : Ct := { f := 121, ps := [.v false .ro ls9], rs := [(false, ls9)], shared := false, pre := fun (x : S) => pNormal x, F := fun (x : S) => mNormal x }
theorem law121 : ∀ x : S, pNormal x → s_spec_Normal x (fun r => r = mNormal x) := fun x h => spec_Normal_ok x h
theorem all121 (w : World) (hJ : J w) : CtAt Tryz.prog ct121 w :=
  ct_by ok121 (cs121 w hJ) Tryz.func121 (by kernel_rfl) (H := (hint [(4, [.val 4 (.str), .val 5 (.int .i64)])])) law121 (by kernel_rfl)
noncomputable def E91 : Env := { tt, eqs := [], cts := [ct120, ct54, ct121] }
theorem ok91 : EnvOk Tryz.prog E91 := ⟨ttOk, by kernel_rfl, rfl, mixOk⟩
theorem cs91 (w0 : World) (hJ : J w0) : EnvCts Tryz.prog E91 w0 w0.heap.size := by
  refine ⟨fun c hc => ?_, fun c hc => ?_⟩
  · rcases List.mem_cons.1 hc with rfl | hc
    · exact fun w hb => all120 w (J_below hJ hb)
    rcases List.mem_cons.1 hc with rfl | hc
    · exact fun w hb => all54 w (J_below hJ hb)
    rcases List.mem_cons.1 hc with rfl | hc
    · exact fun w hb => all121 w (J_below hJ hb)
    cases hc
  · cases hc
noncomputable def ct91 : Ct := { f := 91, ps := [.v true .ro ls50, .v true .ro ls62], rs := [(false, ls48)], shared := false, pre := fun (x : Req × Rsp) => pPicked x.1 x.2, F := fun (x : Req × Rsp) => mPicked x.1 x.2 }
theorem law91 : ∀ x : Req × Rsp, pPicked x.1 x.2 → s_spec_Picked x.1 x.2 (fun r => r = mPicked x.1 x.2) := fun x h => spec_Picked_ok x.1 x.2 h
theorem all91 (w : World) (hJ : J w) : CtAt Tryz.prog ct91 w :=
  ct_by ok91 (cs91 w hJ) Tryz.func91 (by kernel_rfl) (H := (hint [(4, [.reg 5 126 [.str, .str] true, .val 7 (.int .i64)])])) law91 (by kernel_rfl)
noncomputable def E48 : Env := { tt, eqs := [], cts := [ct91, ct90] }
theorem ok48 : EnvOk Tryz.prog E48 := ⟨ttOk, by kernel_rfl, rfl, mixOk⟩
theorem cs48 (w0 : World) (hJ : J w0) : EnvCts Tryz.prog E48 w0 w0.heap.size := by
  refine ⟨fun c hc => ?_, fun c hc => ?_⟩
  · rcases List.mem_cons.1 hc with rfl | hc
    · exact fun w hb => all91 w (J_below hJ hb)
    rcases List.mem_cons.1 hc with rfl | hc
    · exact fun w hb => all90 w (J_below hJ hb)
    cases hc
  · cases hc
noncomputable def ct48 : Ct := { f := 48, ps := [.v true .ro ls50, .v true .ro ls62, .v false .ro ls48], rs := [(false, ls4)], shared := false, pre := fun (x : Req × Rsp × (List Fld)) => pVaryFits x.1 x.2.1 x.2.2, F := fun (x : Req × Rsp × (List Fld)) => mVaryFits x.1 x.2.1 x.2.2 }
theorem law48 : ∀ x : Req × Rsp × (List Fld), pVaryFits x.1 x.2.1 x.2.2 → s_spec_VaryFits x.1 x.2.1 x.2.2 (fun r => r = mVaryFits x.1 x.2.1 x.2.2) := fun x h => spec_VaryFits_ok x.1 x.2.1 x.2.2 h
theorem all48 (w : World) (hJ : J w) : CtAt Tryz.prog ct48 w :=
  ct_by ok48 (cs48 w hJ) Tryz.func48 (by kernel_rfl) (H := (hint [])) law48 (by kernel_rfl)
noncomputable def E15 : Env := { tt, eqs := [], cts := [ct33, ct48] }
theorem ok15 : EnvOk Tryz.prog E15 := ⟨ttOk, by kernel_rfl, rfl, mixOk⟩
theorem cs15 (w0 : World) (hJ : J w0) : EnvCts Tryz.prog E15 w0 w0.heap.size := by
  refine ⟨fun c hc => ?_, fun c hc => ?_⟩
  · rcases List.mem_cons.1 hc with rfl | hc
    · exact fun w hb => all33 w (J_below hJ hb)
    rcases List.mem_cons.1 hc with rfl | hc
    · exact fun w hb => all48 w (J_below hJ hb)
    cases hc
  · cases hc
noncomputable def ct15 : Ct := { f := 15, ps := [.v true .ro ls46, .v true .ro ls50], rs := [(false, ls3)], shared := false, pre := fun (x : Shd × Req) => pShardFind x.1 x.2, F := fun (x : Shd × Req) => mShardFind x.1 x.2 }
theorem law15 : ∀ x : Shd × Req, pShardFind x.1 x.2 → s_spec_ShardFind x.1 x.2 (fun r => r = mShardFind x.1 x.2) := fun x h => spec_ShardFind_ok x.1 x.2 h
theorem all15 (w : World) (hJ : J w) : CtAt Tryz.prog ct15 w :=
  ct_by ok15 (cs15 w hJ) Tryz.func15 (by kernel_rfl) (H := (hint [(5, [.val 5 (.int .i64), .val 6 (.int .i64)])])) law15 (by kernel_rfl)
noncomputable def E102 : Env := { tt, eqs := [], cts := [] }
theorem ok102 : EnvOk Tryz.prog E102 := ⟨ttOk, by kernel_rfl, rfl, mixOk⟩
theorem cs102 (w0 : World) (hJ : J w0) : EnvCts Tryz.prog E102 w0 w0.heap.size := by
  refine ⟨fun c hc => ?_, fun c hc => ?_⟩
  · cases hc
  · cases hc
noncomputable def ct102 : Ct := { f := 102, ps := [.v false .ro ls9], rs := [(false, ls133)], shared := false, pre := fun (x : S) => pCommas x, F := fun (x : S) => mCommas x }
theorem law102 : ∀ x : S, pCommas x → s_impl_commas x (fun r => r = mCommas x) := fun x h => impl_commas_ok x h
theorem all102 (w : World) (hJ : J w) : CtAt Tryz.prog ct102 w :=
  ct_by ok102 (cs102 w hJ) Tryz.func102 (by kernel_rfl) (H := (hint [(4, [.reg 3 3 [.int .i64] true, .val 4 (.bool), .val 5 (.int .i64)])])) law102 (by kernel_rfl)
noncomputable def E60 : Env := { tt, eqs := [], cts := [ct102, ct103] }
theorem ok60 : EnvOk Tryz.prog E60 := ⟨ttOk, by kernel_rfl, rfl, mixOk⟩
theorem cs60 (w0 : World) (hJ : J w0) : EnvCts Tryz.prog E60 w0 w0.heap.size := by
  refine ⟨fun c hc => ?_, fun c hc => ?_⟩
  · rcases List.mem_cons.1 hc with rfl | hc
    · exact fun w hb => all102 w (J_below hJ hb)
    rcases List.mem_cons.1 hc with rfl | hc
    · exact fun w hb => all103 w (J_below hJ hb)
    cases hc
  · cases hc
noncomputable def ct60 : Ct := { f := 60, ps := [.v false .ro ls9], rs := [(false, ls95)], shared := false, pre := fun (x : S) => pSplitList x, F := fun (x : S) => mSplitList x }
theorem law60 : ∀ x : S, pSplitList x → s_impl_SplitList x (fun r => r = mSplitList x) := fun x h => impl_SplitList_ok x h
theorem all60 (w : World) (hJ : J w) : CtAt Tryz.prog ct60 w :=
  ct_by ok60 (cs60 w hJ) Tryz.func60 (by kernel_rfl) (H := (hint [(4, [.reg 3 9 [.str] true, .val 4 (.int .i64), .val 16 (.int .i64)])])) law60 (by kernel_rfl)
noncomputable def E139 : Env := { tt, eqs := [], cts := [] }
theorem ok139 : EnvOk Tryz.prog E139 := ⟨ttOk, by kernel_rfl, rfl, mixOk⟩
theorem cs139 (w0 : World) (hJ : J w0) : EnvCts Tryz.prog E139 w0 w0.heap.size := by
  refine ⟨fun c hc => ?_, fun c hc => ?_⟩
  · cases hc
  · cases hc
noncomputable def ct139 : Ct := { f := 139, ps := [.v false .ro ls95, .v false .ro ls9], rs := [(false, ls3)], shared := false, pre := fun (x : (List S) × S) => pIndex_string x.1 x.2, F := fun (x : (List S) × S) => mIndex_string x.1 x.2 }
theorem law139 : ∀ x : (List S) × S, pIndex_string x.1 x.2 → s_slices_Index_string x.1 x.2 (fun r => r = mIndex_string x.1 x.2) := fun x h => slices_Index_string_ok x.1 x.2 h
theorem all139 (w : World) (hJ : J w) : CtAt Tryz.prog ct139 w :=
  ct_by ok139 (cs139 w hJ) Tryz.func139 (by kernel_rfl) (H := (hint [(2, [.val 8 (.int .i64)])])) law139 (by kernel_rfl)
noncomputable def E154 : Env := { tt, eqs := [], cts := [ct139] }
theorem ok154 : EnvOk Tryz.prog E154 := ⟨ttOk, by kernel_rfl, rfl, mixOk⟩
theorem cs154 (w0 : World) (hJ : J w0) : EnvCts Tryz.prog E154 w0 w0.heap.size := by
  refine ⟨fun c hc => ?_, fun c hc => ?_⟩
  · rcases List.mem_cons.1 hc with rfl | hc
    · exact fun w hb => all139 w (J_below hJ hb)
    cases hc
  · cases hc
noncomputable def ct154 : Ct := { f := 154, ps := [.v false .ro ls95, .v false .ro ls9], rs := [(false, ls4)], shared := false, pre := fun (x : (List S) × S) => pContains_string x.1 x.2, F := fun (x : (List S) × S) => mContains_string x.1 x.2 }
theorem law154 : ∀ x : (List S) × S, pContains_string x.1 x.2 → s_slices_Contains_string x.1 x.2 (fun r => r = mContains_string x.1 x.2) := fun x h => slices_Contains_string_ok x.1 x.2 h
theorem all154 (w : World) (hJ : J w) : CtAt Tryz.prog ct154 w :=
  ct_by ok154 (cs154 w hJ) Tryz.func154 (by kernel_rfl) (H := (hint [])) law154 (by kernel_rfl)
noncomputable def E124 : Env := { tt, eqs := [], cts := [ct58, ct60, ct148, ct154] }
theorem ok124 : EnvOk Tryz.prog E124 := ⟨ttOk, by kernel_rfl, rfl, mixOk⟩
theorem cs124 (w0 : World) (hJ : J w0) : EnvCts Tryz.prog E124 w0 w0.heap.size := by
  refine ⟨fun c hc => ?_, fun c hc => ?_⟩
  · rcases List.mem_cons.1 hc with rfl | hc
    · exact fun w hb => all58 w (J_below hJ hb)
    rcases List.mem_cons.1 hc with rfl | hc
    · exact fun w hb => all60 w (J_below hJ hb)
    rcases List.mem_cons.1 hc with rfl | hc
    · exact fun w hb => all148 w (J_below hJ hb)
    rcases List.mem_cons.1 hc with rfl | hc
    · exact fun w hb => all154 w (J_below hJ hb)
    cases hc
  · cases hc
noncomputable def ct124 : Ct := { f := 124, ps := [.v true .ro ls62], rs := [(false, ls95)], shared := false, pre := fun (x : Rsp) => pVaryNames x, F := fun (x : Rsp) => mVaryNames x }
theorem law124 : ∀ x : Rsp, pVaryNames x → s_impl_VaryNames x (fun r => r = mVaryNames x) := fun x h => impl_VaryNames_ok x h
theorem all124 (w : World) (hJ : J w) : CtAt Tryz.prog ct124 w :=
  ct_by ok124 (cs124 w hJ) Tryz.func124 (by kernel_rfl) (H := (hint [(4, [.reg 5 9 [.str] true, .val 19 (.int .i64)])])) law124 (by kernel_rfl)
noncomputable def E125 : Env := { tt, eqs := [], cts := [ct60, ct100] }
theorem ok125 : EnvOk Tryz.prog E125 := ⟨ttOk, by kernel_rfl, rfl, mixOk⟩
theorem cs125 (w0 : World) (hJ : J w0) : EnvCts Tryz.prog E125 w0 w0.heap.size := by
  refine ⟨fun c hc => ?_, fun c hc => ?_⟩
  · rcases List.mem_cons.1 hc with rfl | hc
    · exact fun w hb => all60 w (J_below hJ hb)
    rcases List.mem_cons.1 hc with rfl | hc
    · exact fun w hb => all100 w (J_below hJ hb)
    cases hc
  · cases hc
noncomputable def ct125 : Ct := { f := 125, ps := [.v false .ro ls9], rs := [(false, ls9)], shared := false, pre := fun (x : S) => pNormal x, F := fun (x : S) => mNormal x }
theorem law125 : ∀ x : S, pNormal x → s_impl_Normal x (fun r => r = mNormal x) := fun x h => impl_Normal_ok x h
theorem all125 (w : World) (hJ : J w) : CtAt Tryz.prog ct125 w :=
  ct_by ok125 (cs125 w hJ) Tryz.func125 (by kernel_rfl) (H := (hint [])) law125 (by kernel_rfl)
noncomputable def E95 : Env := { tt, eqs := [], cts := [ct124, ct58, ct125] }
theorem ok95 : EnvOk Tryz.prog E95 := ⟨ttOk, by kernel_rfl, rfl, mixOk⟩
theorem cs95 (w0 : World) (hJ : J w0) : EnvCts Tryz.prog E95 w0 w0.heap.size := by
  refine ⟨fun c hc => ?_, fun c hc => ?_⟩
  · rcases List.mem_cons.1 hc with rfl | hc
    · exact fun w hb => all124 w (J_below hJ hb)
    rcases List.mem_cons.1 hc with rfl | hc
    · exact fun w hb => all58 w (J_below hJ hb)
    rcases List.mem_cons.1 hc with rfl | hc
    · exact fun w hb => all125 w (J_below hJ hb)
    cases hc
  · cases hc
noncomputable def ct95 : Ct := { f := 95, ps := [.v true .ro ls50, .v true .ro ls62], rs := [(false, ls48)], shared := false, pre := fun (x : Req × Rsp) => pPicked x.1 x.2, F := fun (x : Req × Rsp) => mPicked x.1 x.2 }
theorem law95 : ∀ x : Req × Rsp, pPicked x.1 x.2 → s_impl_Picked x.1 x.2 (fun r => r = mPicked x.1 x.2) := fun x h => impl_Picked_ok x.1 x.2 h
theorem all95 (w : World) (hJ : J w) : CtAt Tryz.prog ct95 w :=
  ct_by ok95 (cs95 w hJ) Tryz.func95 (by kernel_rfl) (H := (hint [(3, [.reg 5 126 [.str, .str] true, .val 14 (.int .i64)])])) law95 (by kernel_rfl)
noncomputable def E51 : Env := { tt, eqs := [], cts := [ct95, ct94] }
theorem ok51 : EnvOk Tryz.prog E51 := ⟨ttOk, by kernel_rfl, rfl, mixOk⟩
theorem cs51 (w0 : World) (hJ : J w0) : EnvCts Tryz.prog E51 w0 w0.heap.size := by
  refine ⟨fun c hc => ?_, fun c hc => ?_⟩
  · rcases List.mem_cons.1 hc with rfl | hc
    · exact fun w hb => all95 w (J_below hJ hb)
    rcases List.mem_cons.1 hc with rfl | hc
    · exact fun w hb => all94 w (J_below hJ hb)
    cases hc
  · cases hc
noncomputable def ct51 : Ct := { f := 51, ps := [.v true .ro ls50, .v true .ro ls62, .v false .ro ls48], rs := [(false, ls4)], shared := false, pre := fun (x : Req × Rsp × (List Fld)) => pVaryFits x.1 x.2.1 x.2.2, F := fun (x : Req × Rsp × (List Fld)) => mVaryFits x.1 x.2.1 x.2.2 }
theorem law51 : ∀ x : Req × Rsp × (List Fld), pVaryFits x.1 x.2.1 x.2.2 → s_impl_VaryFits x.1 x.2.1 x.2.2 (fun r => r = mVaryFits x.1 x.2.1 x.2.2) := fun x h => impl_VaryFits_ok x.1 x.2.1 x.2.2 h
theorem all51 (w : World) (hJ : J w) : CtAt Tryz.prog ct51 w :=
  ct_by ok51 (cs51 w hJ) Tryz.func51 (by kernel_rfl) (H := (hint [])) law51 (by kernel_rfl)
noncomputable def E18 : Env := { tt, eqs := [], cts := [ct39, ct51] }
theorem ok18 : EnvOk Tryz.prog E18 := ⟨ttOk, by kernel_rfl, rfl, mixOk⟩
theorem cs18 (w0 : World) (hJ : J w0) : EnvCts Tryz.prog E18 w0 w0.heap.size := by
  refine ⟨fun c hc => ?_, fun c hc => ?_⟩
  · rcases List.mem_cons.1 hc with rfl | hc
    · exact fun w hb => all39 w (J_below hJ hb)
    rcases List.mem_cons.1 hc with rfl | hc
    · exact fun w hb => all51 w (J_below hJ hb)
    cases hc
  · cases hc
noncomputable def ct18 : Ct := { f := 18, ps := [.v true .ro ls46, .v true .ro ls50], rs := [(false, ls3)], shared := false, pre := fun (x : Shd × Req) => pShardFind x.1 x.2, F := fun (x : Shd × Req) => mShardFind x.1 x.2 }
theorem law18 : ∀ x : Shd × Req, pShardFind x.1 x.2 → s_impl_ShardFind x.1 x.2 (fun r => r = mShardFind x.1 x.2) := fun x h => impl_ShardFind_ok x.1 x.2 h
theorem all18 (w : World) (hJ : J w) : CtAt Tryz.prog ct18 w :=
  ct_by ok18 (cs18 w hJ) Tryz.func18 (by kernel_rfl) (H := (hint [(5, [.val 5 (.int .i64), .val 19 (.int .i64)])])) law18 (by kernel_rfl)
noncomputable def E20 : Env := { tt, eqs := [], cts := [ct53] }
theorem ok20 : EnvOk Tryz.prog E20 := ⟨ttOk, by kernel_rfl, rfl, mixOk⟩
theorem cs20 (w0 : World) (hJ : J w0) : EnvCts Tryz.prog E20 w0 w0.heap.size := by
  refine ⟨fun c hc => ?_, fun c hc => ?_⟩
  · rcases List.mem_cons.1 hc with rfl | hc
    · exact fun w hb => all53 w (J_below hJ hb)
    cases hc
  · cases hc
noncomputable def ct20 : Ct := { f := 20, ps := [.v true .ro ls50, .v true .ro ls50], rs := [(false, [.bool])], shared := false, pre := fun (q : Req × Req) => pEq q.1 q.2, F := fun (q : Req × Req) => eqF q.1 q.2 }
def st20 : List (EqStep Req) := [.ne (fun (x y : Req) => x.1 ≠ y.1), .ne (fun (x y : Req) => x.2.1 ≠ y.2.1), .call (fun (x _ : Req) => wd (x.2.2.1 : (List Fld))) (fun (x y : Req) => eqF (x.2.2.1 : (List Fld)) y.2.2.1), .ne (fun (x y : Req) => x.2.2.2 ≠ y.2.2.2)]
def mk20 (a0 : S) (a1 : S) (a2 : (List Fld)) (a3 : S) : Req := (a0, a1, a2, a3)
theorem a20 (x y : Req) : eqAll x y st20 ↔ x = y := by
  constructor
  · rintro ⟨h0, h1, h2, h3, -⟩
    have h0 : x.1 = y.1 := Classical.byContradiction h0
    have h1 : x.2.1 = y.2.1 := Classical.byContradiction h1
    have h2 : (x.2.2.1 : (List Fld)) = y.2.2.1 := eqF_iff.1 h2
    have h3 : x.2.2.2 = y.2.2.2 := Classical.byContradiction h3
    show mk20 (x.1) (x.2.1) (x.2.2.1) (x.2.2.2) = mk20 (y.1) (y.2.1) (y.2.2.1) (y.2.2.2)
    rw [h0, h1, h2, h3]
    all_goals rfl
  · rintro rfl
    exact ⟨fun h => h rfl, fun h => h rfl, eqF_iff.2 rfl, fun h => h rfl, trivial⟩
theorem w20 (x y : Req) (h : wd x) : eqFine x y st20 := by
  first | simp only [wd_pair] at h | skip
  simp only [eqFine, st20, wd_pair]
  all_goals simp only [h, and_self]
theorem law20 : ∀ q : Req × Req, pEq q.1 q.2 → eqSt q.1 q.2 st20 (fun r => r = eqF q.1 q.2) := fun q hq => eqSt_holds q.1 q.2 st20 (w20 q.1 q.2 hq) (eqF_iff.trans (a20 q.1 q.2).symm)
theorem all20 (w : World) (hJ : J w) : CtAt Tryz.prog ct20 w :=
  ct_by ok20 (cs20 w hJ) Tryz.func20 (by kernel_rfl) (H := (hint [])) law20 (by kernel_rfl)
noncomputable def E3 : Env := { tt, eqs := [], cts := [ct8, ct10, ct9, ct11, ct12] }
theorem ok3 : EnvOk Tryz.prog E3 := ⟨ttOk, by kernel_rfl, rfl, mixOk⟩
theorem cs3 (w0 : World) (hJ : J w0) : EnvCts Tryz.prog E3 w0 w0.heap.size := by
  refine ⟨fun c hc => ?_, fun c hc => ?_⟩
  · rcases List.mem_cons.1 hc with rfl | hc
    · exact fun w hb => all8 w (J_below hJ hb)
    rcases List.mem_cons.1 hc with rfl | hc
    · exact fun w hb => all10 w (J_below hJ hb)
    rcases List.mem_cons.1 hc with rfl | hc
    · exact fun w hb => all9 w (J_below hJ hb)
    rcases List.mem_cons.1 hc with rfl | hc
    · exact fun w hb => all11 w (J_below hJ hb)
    rcases List.mem_cons.1 hc with rfl | hc
    · exact fun w hb => all12 w (J_below hJ hb)
    cases hc
  · cases hc
noncomputable def ct3 : Ct := boolCt 3 [.v true .ro ls25] (fun (x : Cch) => p_FnExactCacheOk x)
theorem law3 : ∀ x : Cch, p_FnExactCacheOk x → s_laws_FnExactCacheOk x (fun r => r = true) := fun x h => laws_FnExactCacheOk_ok x h
theorem all3 (w : World) (hJ : J w) : CtAt Tryz.prog ct3 w :=
  ct_by ok3 (cs3 w hJ) Tryz.func3 (by kernel_rfl) (H := (hint [])) law3 (by kernel_rfl)
noncomputable def E4 : Env := { tt, eqs := [], cts := [ct13, ct14, ct16, ct17, ct15, ct18, ct19, ct20] }
theorem ok4 : EnvOk Tryz.prog E4 := ⟨ttOk, by kernel_rfl, rfl, mixOk⟩
theorem cs4 (w0 : World) (hJ : J w0) : EnvCts Tryz.prog E4 w0 w0.heap.size := by
  refine ⟨fun c hc => ?_, fun c hc => ?_⟩
  · rcases List.mem_cons.1 hc with rfl | hc
    · exact fun w hb => all13 w (J_below hJ hb)
    rcases List.mem_cons.1 hc with rfl | hc
    · exact fun w hb => all14 w (J_below hJ hb)
    rcases List.mem_cons.1 hc with rfl | hc
    · exact fun w hb => all16 w (J_below hJ hb)
    rcases List.mem_cons.1 hc with rfl | hc
    · exact fun w hb => all17 w (J_below hJ hb)
    rcases List.mem_cons.1 hc with rfl | hc
    · exact fun w hb => all15 w (J_below hJ hb)
    rcases List.mem_cons.1 hc with rfl | hc
    · exact fun w hb => all18 w (J_below hJ hb)
    rcases List.mem_cons.1 hc with rfl | hc
    · exact fun w hb => all19 w (J_below hJ hb)
    rcases List.mem_cons.1 hc with rfl | hc
    · exact fun w hb => all20 w (J_below hJ hb)
    cases hc
  · cases hc
noncomputable def ct4 : Ct := boolCt 4 [.v true .ro ls37, .v true .ro ls40] (fun (x : Shd × Req) => p_FnExactShardFind x.1 x.2)
theorem law4 : ∀ x : Shd × Req, p_FnExactShardFind x.1 x.2 → s_laws_FnExactShardFind x.1 x.2 (fun r => r = true) := fun x h => laws_FnExactShardFind_ok x.1 x.2 h
theorem all4 (w : World) (hJ : J w) : CtAt Tryz.prog ct4 w :=
  ct_by ok4 (cs4 w hJ) Tryz.func4 (by kernel_rfl) (H := (hint [])) law4 (by kernel_rfl)
end Go.Proofs.YtlkhfjhnpedabaaGreatDoor.Ap
end
