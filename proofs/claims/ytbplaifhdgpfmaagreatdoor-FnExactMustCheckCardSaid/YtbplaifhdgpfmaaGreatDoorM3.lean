/- A small verified machine for the operations of the given program, and plain laws of what its functions compute; without conditions of its own. Part 4. -/
import Derived.Test.YtbplaifhdgpfmaaGreatDoorM2
import Derived.Lib.AppendIntMem
import Derived.Lib.LaidTab
import Derived.Stop.LaidErr
import Derived.DataReads
import Derived.Lib.Join
import Derived.Lib.SlTrimSet
import Derived.Laws.IdiomStrings
import Derived.Lib.AtoiAllMem
import Derived.Lib.AtoiAllCases
import Derived.Lib.Split
set_option linter.unusedVariables false
set_option linter.unusedSimpArgs false
section
/- A law's end: from the contract of the law's function to its calls. -/
set_option linter.unusedVariables false
namespace Go.Ev
open Go.RowKit Go.WideShapes
def boolCt (f : FuncId) (ps : List PT) (pre : pts ps → Prop) : Ct := { f, ps, rs := [(false, [.bool])], shared := false, pre, F := fun _ => (true : Bool) }
theorem bool_end {P : Program} {f : FuncId} {ps : List PT} {pre : pts ps → Prop} {W : World} {vals : Array Value} {x : pts ps} (h : CtAt P (boolCt f ps pre) W) (hargs : argsR (now W) W ps x vals.toList) (hpre : pre x) :
    Calls P f vals W fun e w' => e = .returned (.bool true) ∧ Below W.heap.size W w' := by
  obtain ⟨_, hc⟩ := h vals x (now W) (fun b hb => hb) hargs hpre
  refine hc.mono fun e w' ⟨vs, v, col, he, hb, hv, _, hr⟩ => ?_
  simp only [boolCt, resR] at hr
  obtain ⟨u, vs', cs, rfl, ho, hs, rfl⟩ := hr
  simp only [outR, repL] at ho
  obtain ⟨u2, cs', rfl, hb2, rfl⟩ := ho
  have hs := hs.resolve_left fun h => by simp [anyRes] at h
  simp only [slotV, Bool.false_eq_true, if_false] at hs
  have e1 : u2 = u := by simpa using hs
  subst e1
  have hu : u2 = .bool true := hb2
  subst hu
  refine ⟨?_, hb⟩
  rw [he]
  rcases hv with hv | ⟨hv, _⟩
  · have : v = .bool true := by simpa using hv.symm
    rw [this]
  · simp at hv
theorem args_nil {S : Nat → Prop} {W : World} : argsR S W [] () [] := rfl
theorem args_cons {S : Nat → Prop} {W : World} {p : PT} {ps : List PT} {x : p.den} {xs : pts ps} {v : Value} {vs : List Value} (h1 : argR S W p x v) (h2 : argsR S W ps xs vs) : argsR S W (p :: ps) (pmk x xs) (v :: vs) := by
  simp only [argsR]
  exact ⟨v, vs, rfl, by rw [phd_pmk]; exact h1, by rw [ptl_pmk]; exact h2⟩
theorem arg_agg {S : Nat → Prop} {W : World} {ts : List L} {x : dens ts} {cs : Array Value} (h : repLs (roRow W S) ts [] 0 0 x cs.toList) : argR S W (.v true .ro ts) x (.agg cs) := ⟨cs.toList, h, by simp [slotV]⟩
theorem arg_one {S : Nat → Prop} {W : World} {ts : List L} {x : dens ts} {v : Value} (h : repLs (roRow W S) ts [] 0 0 x [v]) : argR S W (.v false .ro ts) x v := ⟨[v], h, by simp [slotV]⟩
theorem by_like {A B : Prop} (hA : A) (h : A = B) : B := h ▸ hA
end Go.Ev
end

section
/- Library functions: from a call's law to a contract of the small machine. -/
set_option linter.unusedVariables false
namespace Go.Ev
open Go.RowKit
theorem tab_below {P : Program} {w W : World} {name : String} {k : IntKind} {zs : List Int} (h : Lib.TabIs P w name k zs) (hb : Below w.heap.size w W) : Lib.TabIs P W name k zs := by
  unfold Lib.TabIs World.var? at *
  cases hg : P.globalNamed name with
  | none => simp [hg] at h
  | some g =>
    simp only [hg, Option.bind_some] at h ⊢
    have hlt : g < w.heap.size := by
      rcases Nat.lt_or_ge g w.heap.size with h' | h'
      · exact h'
      · rw [Array.getElem?_eq_none h'] at h; simp at h
    rw [hb.block g hlt]
    exact h
def FnIs (P : Program) (f : FuncId) : Prop := ∃ fn, P.funcs[f]? = some fn ∧ (fn.name == "runtime.NumGoroutine") = false ∧ fn.body.isNone = false
theorem args_v {S : Nat → Prop} {W : World} {t : L} {ps : List PT} {x : pts (.v false .ro [t] :: ps)} {vs : List Value} (h : argsR S W (.v false .ro [t] :: ps) x vs) :
    ∃ v vs', vs = v :: vs' ∧ repL (roRow W S) t [(0, 0)] (hd (phd x)) v ∧ argsR S W ps (ptl x) vs' := by
  simp only [argsR, argR] at h
  obtain ⟨v, vs', rfl, ⟨cs, hc, hs⟩, h2⟩ := h
  obtain ⟨u, cs', rfl, hu, hn⟩ := repLs_cons.1 hc
  simp only [repLs] at hn
  subst hn
  simp only [slotV, Bool.false_eq_true, if_false] at hs
  obtain rfl : u = v := by simpa using hs
  exact ⟨u, vs', rfl, hu, h2⟩
theorem args_e {S : Nat → Prop} {W : World} {x : pts []} {vs : List Value} (h : argsR S W [] x vs) : vs = [] := h
theorem arr_of {vals : Array Value} {l : List Value} (h : vals.toList = l) : vals = l.toArray := by rw [← h]
theorem ct_lib {P : Program} {c : Ct} {w : World} (hf : FnIs P c.f)
    (h : ∀ (vals : Array Value) (x : pts c.ps) (S : Nat → Prop), (∀ b, S b → b < w.heap.size) → argsR S w c.ps x vals.toList → c.pre x →
      Calls P c.f vals w fun e w' => ∃ vs v, e = .returned v ∧ Below w.heap.size w w' ∧ retV vs v ∧ ∀ S', resR S' (fun _ => none) w' c.shared c.deep c.rs (c.F x) 0 vs) : CtAt P c w :=
  fun vals x S hS ha hp => ⟨hf, (h vals x S hS ha hp).mono fun e w' ⟨vs, v, he, hb, hv, hr⟩ => ⟨vs, v, fun _ => none, he, hb, hv, fun b hb => absurd rfl hb, hr _⟩⟩
theorem res_str {S : Nat → Prop} {col : Nat → Option Col} {W : World} (x : ByteArray) : resR S col W false false [(false, [.str])] (x : caps [[L.str]]) 0 [.string x] := by
  simp only [resR]
  exact ⟨_, _, [.string x], rfl, by simp only [outR]; exact ⟨_, _, rfl, rfl, rfl⟩, .inr rfl, rfl⟩
theorem res_int {S : Nat → Prop} {col : Nat → Option Col} {W : World} {k : IntKind} (x : Int) : resR S col W false false [(false, [.int k])] (x : caps [[L.int k]]) 0 [.int k x] := by
  simp only [resR]
  exact ⟨_, _, [.int k x], rfl, by simp only [outR]; exact ⟨_, _, rfl, rfl, rfl⟩, .inr rfl, rfl⟩
def itoaCt (f : FuncId) : Ct := { f, ps := [.v false .ro [.int .i64]], rs := [(false, [.str])], shared := false, pre := fun (x : Int) => pItoa x, F := fun (x : Int) => mItoa x }
theorem itoa_ct {P : Program} {f : FuncId} {w : World} (hf : FnIs P f)
    (hI : ∀ n : Int, -9223372036854775808 ≤ n → n ≤ 9223372036854775807 → Calls P f #[.int .i64 n] w fun e w' => e = .returned (.string ⟨(Lib.itoa n).toArray⟩) ∧ ∃ k os, w' = Sort.grow (w.drewN k) os) : CtAt P (itoaCt f) w := by
  refine ct_lib hf fun vals x S hS ha hp => ?_
  obtain ⟨v, vs', hv, h1, h2⟩ := args_v ha
  have h2 := args_e h2
  subst h2
  have h1 : v = .int .i64 x := h1
  subst h1
  rw [arr_of hv]
  refine (hI x hp.1 hp.2).mono fun e w' ⟨he, k, os, hw⟩ => ?_
  refine ⟨[.string (mItoa x)], _, he, ?_, Or.inl rfl, fun S' => res_str _⟩
  rw [hw]
  exact Lib.below_grow _ w (Nat.le_refl _) k os
end Go.Ev
end

section
/- Library functions: strings.Join, strings.Trim, strings.Cut, strings.IndexByte: contracts of the small machine. -/
set_option linter.unusedVariables false
namespace Go.Ev
open Go.RowKit
theorem cell_lt {w : World} {a : Addr} {v : Value} (h : w.cell? a = some v) : a.block < w.heap.size := by
  rcases Nat.lt_or_ge a.block w.heap.size with h' | h'
  · exact h'
  · unfold World.cell? at h
    rw [Array.getElem?_eq_none h'] at h
    simp at h
def indexByteCt (f : FuncId) : Ct := { f, ps := [.v false .ro [.str], .v false .ro [.int .u8]], rs := [(false, [.int .i64])], shared := false, pre := fun (x : S × Int) => pIndexByte x.1 x.2, F := fun (x : S × Int) => mIndexByte x.1 x.2 }
theorem indexByte_ct {P : Program} {f : FuncId} {w : World} (hf : FnIs P f)
    (hI : ∀ (s : ByteArray) (c : Int), Calls P f #[.string s, .int .u8 c] w fun e w' => e = .returned (.int .i64 (Lib.indexByte s.data.toList c.toNat.toUInt8)) ∧ w' = w) : CtAt P (indexByteCt f) w := by
  refine ct_lib hf fun vals x S hS ha hp => ?_
  obtain ⟨v, vs', hv, h1, h2⟩ := args_v ha
  obtain ⟨u, us', rfl, h3, h4⟩ := args_v h2
  have h4 := args_e h4
  subst h4
  have h1 : v = .string x.1 := h1
  have h3 : u = .int .u8 x.2 := h3
  subst h1; subst h3
  rw [arr_of hv]
  refine (hI x.1 x.2).mono fun e w' ⟨he, hw⟩ => ⟨[.int .i64 (mIndexByte x.1 x.2)], _, he, ?_, Or.inl rfl, fun S' => res_int _⟩
  rw [hw]; exact Below.refl _ _
def trimLCt (f : FuncId) : Ct := { f, ps := [.v false .ro [.str], .v false .ro [.str]], rs := [(false, [.str])], shared := false, pre := fun (x : S × S) => pTrimL x.1 x.2, F := fun (x : S × S) => mTrimL x.1 x.2 }
theorem trimL_ct {P : Program} {f : FuncId} {w : World} (hf : FnIs P f)
    (hI : ∀ (s cs : ByteArray), s.size ≤ 9223372036854775807 → cs.size < 4294967281 → (∀ (j : Nat) b, cs.data.toList[j]? = some b → b.toNat < 128) →
      Calls P f #[.string s, .string cs] w fun e w' => e = .returned (.string ⟨(Lib.trimS s.data.toList cs.data.toList).toArray⟩) ∧ Below w.heap.size w w') : CtAt P (trimLCt f) w := by
  refine ct_lib hf fun vals x S hS ha hp => ?_
  obtain ⟨v, vs', hv, h1, h2⟩ := args_v ha
  obtain ⟨u, us', rfl, h3, h4⟩ := args_v h2
  have h4 := args_e h4
  subst h4
  have h1 : v = .string x.1 := h1
  have h3 : u = .string x.2 := h3
  subst h1; subst h3
  rw [arr_of hv]
  have hp : x.1.size ≤ 1073741824 ∧ x.2 = lit [32, 9] := hp
  obtain ⟨hp1, hp2⟩ := hp
  have hall : ∀ b ∈ (lit [32, 9]).data.toList, b.toNat < 128 := by decide
  refine (hI x.1 x.2 (by omega) (by rw [hp2]; decide) (fun j b hb => by rw [hp2] at hb; exact hall b (List.mem_of_getElem? hb))).mono fun e w' ⟨he, hb⟩ => ⟨[.string (mTrimL x.1 x.2)], _, he, hb, Or.inl rfl, fun S' => res_str _⟩
def cutCt (f : FuncId) : Ct := { f, ps := [.v false .ro [.str], .v false .ro [.str]], rs := [(false, [.str]), (false, [.str]), (false, [.bool])], shared := false, pre := fun (x : S × S) => pCut x.1 x.2, F := fun (x : S × S) => mCut x.1 x.2 }
theorem cut_ct {P : Program} {f : FuncId} {w : World} (hf : FnIs P f)
    (hI : ∀ (s sep : ByteArray), s.size < 4294967281 →
      Calls P f #[.string s, .string sep] w fun e w' => e = .returned (.tuple #[.string ⟨(Lib.cut s.data.toList sep.data.toList).1.toArray⟩, .string ⟨(Lib.cut s.data.toList sep.data.toList).2.1.toArray⟩, .bool (Lib.cut s.data.toList sep.data.toList).2.2]) ∧ ∃ n, w' = w.drewN n) : CtAt P (cutCt f) w := by
  refine ct_lib hf fun vals x S hS ha hp => ?_
  obtain ⟨v, vs', hv, h1, h2⟩ := args_v ha
  obtain ⟨u, us', rfl, h3, h4⟩ := args_v h2
  have h4 := args_e h4
  subst h4
  have h1 : v = .string x.1 := h1
  have h3 : u = .string x.2 := h3
  subst h1; subst h3
  rw [arr_of hv]
  have hp : x.1.size ≤ 1073741824 := hp
  refine (hI x.1 x.2 (by omega)).mono fun e w' ⟨he, n, hw⟩ => ⟨[.string (mCut x.1 x.2).1, .string (mCut x.1 x.2).2.1, .bool (mCut x.1 x.2).2.2], _, he, ?_, Or.inr ⟨by simp, rfl⟩, fun S' => ?_⟩
  · rw [hw]
    exact ⟨rfl, rfl, rfl, Nat.le_refl _, fun _ _ => rfl⟩
  · simp only [cutCt, resR]
    refine ⟨_, _, [.string (mCut x.1 x.2).1], rfl, by simp only [outR]; exact ⟨_, _, rfl, rfl, rfl⟩, .inr rfl, ?_⟩
    refine ⟨_, _, [.string (mCut x.1 x.2).2.1], rfl, by simp only [outR]; exact ⟨_, _, rfl, rfl, rfl⟩, .inr rfl, ?_⟩
    exact ⟨_, _, [.bool (mCut x.1 x.2).2.2], rfl, by simp only [outR]; exact ⟨_, _, rfl, rfl, rfl⟩, .inr rfl, rfl⟩
theorem joinL_tail (sep : S) : ∀ (x : S) (r : List S), bs (joinL sep (x :: r)) = bs x ++ Lib.joinTail (bs sep) (r.map bs)
  | x, [] => by simp [joinL, Lib.joinTail]
  | x, y :: r => by
    rw [joinL, bs_append, bs_append, joinL_tail sep y r]
    simp only [Lib.joinTail, List.map_cons, List.flatten_cons, List.append_assoc]
theorem mJoin_lib (xs : List S) (sep : S) : mJoin xs sep = ob (Lib.join (xs.map bs) (bs sep)) := by
  cases xs with
  | nil => rfl
  | cons x r =>
    refine bs_inj ?_
    rw [bs_ob, mJoin, joinL_tail, List.map_cons, Lib.join_cons]
theorem lens_sum : ∀ xs : List S, Lib.lens (xs.map bs) = sumN (xs.map fun x => x.size)
  | [] => rfl
  | x :: r => by
    have := lens_sum r
    unfold Lib.lens at this ⊢
    simp only [List.map_cons, List.sum_cons, sumN, bs_len] at this ⊢
    omega
theorem join_core {P : Program} {f : FuncId} {w : World} {S : Nat → Prop} (hS : ∀ b, S b → b < w.heap.size)
    (h0 : ∀ (a : Option Addr) (c : Nat) (sep : ByteArray), Calls P f #[.slice a 0 c, .string sep] w fun e w' => e = .returned (.string ⟨#[]⟩) ∧ w' = w)
    (hI : ∀ (bk o c : Nat) (xs : List ByteArray) (sep : ByteArray), (∀ (j : Nat) x, xs[j]? = some x → w.cell? ⟨bk, o + j, none⟩ = some (.string x)) → bk < w.heap.size → xs.length ≤ 140737488355328 → xs.length ≤ c → (Lib.join (xs.map (·.data.toList)) sep.data.toList).length ≤ 140737488355328 →
      Calls P f #[.slice (some ⟨bk, o, none⟩) xs.length c, .string sep] w fun e w' => e = .returned (.string ⟨(Lib.join (xs.map (·.data.toList)) sep.data.toList).toArray⟩) ∧ Below w.heap.size w w')
    (xs : List ByteArray) (sep : ByteArray) (hp : pJoin xs sep) (A : Option Addr) (cap : Nat) (cs : List Value) (hcap : xs.length ≤ cap) (hcl : cs.length = xs.length * 1)
    (hA : 0 < xs.length * 1 → ∃ ad, A = some ad ∧ S ad.block ∧ ∀ (j : Nat) (u : Value), cs[j]? = some u → w.cell? (ad.add j) = some u)
    (hx : ∀ (i : Nat) (y : ByteArray), xs[i]? = some y → (cs.drop (i * 1)).take 1 = [.string y]) :
    Calls P f #[.slice A xs.length cap, .string sep] w fun e w' => e = .returned (.string (mJoin xs sep)) ∧ Below w.heap.size w w' := by
  obtain ⟨hp1, hp2, hp3⟩ := hp
  by_cases hn : xs.length = 0
  · have : xs = [] := List.length_eq_zero_iff.1 hn
    subst this
    refine (h0 A cap sep).mono fun e w' ⟨he, hw⟩ => ⟨he, ?_⟩
    rw [hw]; exact Below.refl _ _
  · obtain ⟨ad, rfl, hb, hcells⟩ := hA (by omega)
    have hget : ∀ (j : Nat) (y : ByteArray), xs[j]? = some y → w.cell? (ad.add j) = some (.string y) := fun j y hj => by
      refine hcells j _ ?_
      have := congrArg (·[0]?) (hx j y hj)
      simpa [List.getElem?_take, List.getElem?_drop] using this
    have hx0 : xs[0]? = some (xs[0]'(by omega)) := List.getElem?_eq_getElem (by omega)
    have hsp := World.cell?_spot (hget 0 _ hx0)
    have hadd : ∀ j, ad.add j = ⟨ad.block, ad.off + j, none⟩ := fun j => by
      have : ad.spot = none := by
        rw [addr_zero] at hsp; exact hsp
      obtain ⟨b, o, s⟩ := ad
      simp only at this
      subst this
      unfold Addr.add
      split
      · rename_i h; subst h; rfl
      · rfl
    have had : ad = ⟨ad.block, ad.off, none⟩ := by have := hadd 0; rw [addr_zero] at this; exact this
    have hjl : (Lib.join (xs.map (·.data.toList)) sep.data.toList).length ≤ 140737488355328 := by
      cases xs with
      | nil => simp at hn
      | cons y r =>
        have h6 := Lib.join_length (bs y) (r.map bs) (bs sep)
        have h7 := lens_sum (y :: r)
        have h8 : (bs sep).length ≤ 16 := by rw [bs_len]; exact hp3
        have h9 : (bs sep).length * (r.map bs).length ≤ 16 * r.length := by rw [List.length_map]; exact Nat.mul_le_mul_right _ h8
        have h10 : (Lib.join ((y :: r).map bs) (bs sep)).length ≤ 140737488355328 := by
          rw [List.map_cons, h6]
          rw [List.map_cons] at h7
          simp only [List.length_cons] at hp1
          omega
        exact h10
    rw [had]
    refine (hI ad.block ad.off cap xs sep (fun j y hj => by rw [← hadd j]; exact hget j y hj) (hS _ hb) (by omega) hcap hjl).mono fun e w' ⟨he, hbel⟩ => ⟨?_, hbel⟩
    rw [he, mJoin_lib]; rfl
def joinCt (e : TypeId) (f : FuncId) : Ct := { f, ps := [.v false .ro [.list e [.str]], .v false .ro [.str]], rs := [(false, [.str])], shared := false, pre := fun (x : List S × S) => pJoin x.1 x.2, F := fun (x : List S × S) => mJoin x.1 x.2 }
theorem join_row {w : World} {S : Nat → Prop} {e : TypeId} {p : Col} {xs : List ByteArray} {v : Value} (h : repL (roRow w S) (.list e [.str]) p (xs : List (dens [L.str])) v) :
    ∃ (A : Option Addr) (cap : Nat) (cs : List Value), v = .slice A xs.length cap ∧ xs.length ≤ cap ∧ cs.length = xs.length * 1 ∧ (0 < xs.length * 1 → ∃ ad, A = some ad ∧ S ad.block ∧ ∀ (j : Nat) (u : Value), cs[j]? = some u → w.cell? (ad.add j) = some u) ∧
      ∀ (i : Nat) (y : ByteArray), xs[i]? = some y → (cs.drop (i * 1)).take 1 = [.string y] := by
  simp only [repL] at h
  obtain ⟨cs, ⟨A, cap, hv, hcap, hA⟩, hcl, hx⟩ := h
  refine ⟨A, cap, cs, hv, hcap, hcl, hA, fun i y hi => ?_⟩
  have h5 := hx i y hi
  simp only [repLs, repL] at h5
  obtain ⟨v, hv, rfl⟩ := h5
  exact hv
theorem join_ct {P : Program} {e : TypeId} {f : FuncId} {w : World} (hf : FnIs P f)
    (h0 : ∀ (a : Option Addr) (c : Nat) (sep : ByteArray), Calls P f #[.slice a 0 c, .string sep] w fun e w' => e = .returned (.string ⟨#[]⟩) ∧ w' = w)
    (hI : ∀ (bk o c : Nat) (xs : List ByteArray) (sep : ByteArray), (∀ (j : Nat) x, xs[j]? = some x → w.cell? ⟨bk, o + j, none⟩ = some (.string x)) → bk < w.heap.size → xs.length ≤ 140737488355328 → xs.length ≤ c → (Lib.join (xs.map (·.data.toList)) sep.data.toList).length ≤ 140737488355328 →
      Calls P f #[.slice (some ⟨bk, o, none⟩) xs.length c, .string sep] w fun e w' => e = .returned (.string ⟨(Lib.join (xs.map (·.data.toList)) sep.data.toList).toArray⟩) ∧ Below w.heap.size w w') : CtAt P (joinCt e f) w := by
  refine ct_lib hf fun vals x S hS ha hp => ?_
  obtain ⟨v, vs', hv, h1, h2⟩ := args_v ha
  obtain ⟨u, us', rfl, h3, h4⟩ := args_v h2
  have h4 := args_e h4
  subst h4
  have h3 : u = .string x.2 := h3
  subst h3
  obtain ⟨A, cap, cs, rfl, hcap, hcl, hA, hx⟩ := join_row (xs := x.1) h1
  rw [arr_of hv]
  exact (join_core hS h0 hI x.1 x.2 hp A cap cs hcap hcl hA hx).mono fun e w' ⟨he, hb⟩ => ⟨[.string (mJoin x.1 x.2)], _, he, hb, Or.inl rfl, fun S' => res_str _⟩
end Go.Ev
end

section
/- Library functions: strconv.Atoi, strings.TrimLeft, strings.Split: contracts of the small machine; what their variables hold. -/
set_option linter.unusedVariables false
namespace Go.Ev
open Go.RowKit
def ErrAt (g : Nat) (w : World) : Prop := ∃ ev, w.cell? ⟨g, 0, none⟩ = some ev ∧ (ev = .nilIface ∨ ∃ te pe, ev = .iface te pe)
theorem errAt_below {g : Nat} {w w' : World} (h : ErrAt g w) (hb : Below w.heap.size w w') : ErrAt g w' := by
  obtain ⟨ev, h1, h2⟩ := h
  exact ⟨ev, (hb.cell (cell_lt h1)).trans h1, h2⟩
def NumAt (g : Nat) (w : World) : Prop := ∃ m, w.cell? ⟨g, 0, none⟩ = some (.int .i64 m)
theorem numAt_below {g : Nat} {w w' : World} (h : NumAt g w) (hb : Below w.heap.size w w') : NumAt g w' := by
  obtain ⟨m, hm⟩ := h
  exact ⟨m, (hb.cell (cell_lt hm)).trans hm⟩
def atoiV (s : S) : Int := match Lib.atoiAll (bs s) with
  | .ok v => v
  | .«syntax» => 0
  | .range => Lib.atoiSat (bs s)
def mAtoi (s : S) : Int × Unit := (atoiV s, ())
def pAtoi (s : S) : Prop := sm s
def atoiCt (f : FuncId) : Ct := { f, ps := [.v false .ro [.str]], rs := [(false, [.int .i64]), (false, [])], shared := false, pre := fun (x : S) => pAtoi x, F := fun (x : S) => mAtoi x }
theorem res_any {S : Nat → Prop} {col : Nat → Option Col} {W : World} {k : IntKind} (x : Int) (v : Value) : resR S col W false false [(false, [.int k]), (false, [])] ((x, ()) : Int × Unit) 0 [.int k x, v] := by
  simp only [resR]
  refine ⟨_, _, [.int k x], rfl, by simp only [outR]; exact ⟨_, _, rfl, rfl, rfl⟩, .inr rfl, ?_⟩
  exact ⟨_, _, [], rfl, rfl, .inl rfl, rfl⟩
theorem atoi_ct {P : Program} {f : FuncId} {w : World} {gS gR : Nat} (hf : FnIs P f) (hS : ErrAt gS w) (hR : ErrAt gR w)
    (hok : ∀ (s : ByteArray), s.size ≤ 9223372036854775806 → ∀ v, Lib.atoiAll s.data.toList = .ok v → Calls P f #[.string s] w fun e w' => e = .returned (.tuple #[.int .i64 v, .nilIface]) ∧ Below w.heap.size w w')
    (hsy : ∀ (s : ByteArray), s.size ≤ 281474976710656 → Lib.atoiAll s.data.toList = .«syntax» → ∀ ev, w.cell? ⟨gS, 0, none⟩ = some ev → (ev = .nilIface ∨ ∃ te pe, ev = .iface te pe) → Calls P f #[.string s] w fun e w' => ∃ u, e = .returned (.tuple #[.int .i64 0, u]) ∧ Below w.heap.size w w')
    (hra : ∀ (s : ByteArray), s.size ≤ 281474976710656 → Lib.atoiAll s.data.toList = .range → ∀ ev, w.cell? ⟨gR, 0, none⟩ = some ev → (ev = .nilIface ∨ ∃ te pe, ev = .iface te pe) → Calls P f #[.string s] w fun e w' => ∃ u, e = .returned (.tuple #[.int .i64 (Lib.atoiSat s.data.toList), u]) ∧ Below w.heap.size w w') : CtAt P (atoiCt f) w := by
  refine ct_lib hf fun vals x S hSS ha hp => ?_
  obtain ⟨v, vs', hv, h1, h2⟩ := args_v ha
  have h2 := args_e h2
  subst h2
  have h1 : v = .string x := h1
  subst h1
  rw [arr_of hv]
  have hp : x.size ≤ 1073741824 := hp
  cases hat : Lib.atoiAll x.data.toList with
  | ok n =>
    refine (hok x (by omega) n hat).mono fun e w' ⟨he, hb⟩ => ⟨[.int .i64 n, .nilIface], _, he, hb, Or.inr ⟨by simp, rfl⟩, fun S' => ?_⟩
    have e : atoiV x = n := by unfold atoiV bs; rw [hat]
    show resR S' _ _ false false [(false, [.int .i64]), (false, [])] ((atoiV x, ()) : Int × Unit) 0 _
    rw [e]
    exact res_any n _
  | «syntax» =>
    obtain ⟨ev, c1, c2⟩ := hS
    refine (hsy x (by omega) hat ev c1 c2).mono fun e w' ⟨u, he, hb⟩ => ⟨[.int .i64 0, u], _, he, hb, Or.inr ⟨by simp, rfl⟩, fun S' => ?_⟩
    have e : atoiV x = 0 := by unfold atoiV bs; rw [hat]
    show resR S' _ _ false false [(false, [.int .i64]), (false, [])] ((atoiV x, ()) : Int × Unit) 0 _
    rw [e]
    exact res_any 0 _
  | range =>
    obtain ⟨ev, c1, c2⟩ := hR
    refine (hra x (by omega) hat ev c1 c2).mono fun e w' ⟨u, he, hb⟩ => ⟨[.int .i64 (Lib.atoiSat x.data.toList), u], _, he, hb, Or.inr ⟨by simp, rfl⟩, fun S' => ?_⟩
    have e : atoiV x = Lib.atoiSat x.data.toList := by unfold atoiV bs; rw [hat]
    show resR S' _ _ false false [(false, [.int .i64]), (false, [])] ((atoiV x, ()) : Int × Unit) 0 _
    rw [e]
    exact res_any _ _
def mTrimLeft (s cs : S) : S := ob (Lib.trimLeftB (bs s) 48)
def pTrimLeft (s cs : S) : Prop := sm s ∧ cs = lit [48]
def trimLeftCt (f : FuncId) : Ct := { f, ps := [.v false .ro [.str], .v false .ro [.str]], rs := [(false, [.str])], shared := false, pre := fun (x : S × S) => pTrimLeft x.1 x.2, F := fun (x : S × S) => mTrimLeft x.1 x.2 }
theorem trimLeft_ct {P : Program} {f : FuncId} {w : World} (hf : FnIs P f)
    (hI : ∀ s : ByteArray, Calls P f #[.string s, .string ⟨#[48]⟩] w fun e w' => e = .returned (.string ⟨(Lib.trimLeftB s.data.toList 48).toArray⟩) ∧ w' = w) : CtAt P (trimLeftCt f) w := by
  refine ct_lib hf fun vals x S hSS ha hp => ?_
  obtain ⟨v, vs', hv, h1, h2⟩ := args_v ha
  obtain ⟨v2, vs2, hv2, h3, h4⟩ := args_v h2
  have h4 := args_e h4
  subst h4; subst hv2
  have h1 : v = .string x.1 := h1
  have h3 : v2 = .string x.2 := h3
  subst h1; subst h3
  rw [arr_of hv]
  obtain ⟨hp1, hp2⟩ := (hp : sm x.1 ∧ x.2 = lit [48])
  rw [hp2]
  refine (hI x.1).mono fun e w' ⟨he, hw⟩ => ⟨[.string (mTrimLeft x.1 x.2)], _, he, ?_, Or.inl rfl, fun S' => res_str _⟩
  rw [hw]
  exact Below.refl _ _
def mSplit (s sep : S) : List S := Lib.splitB sep 0 (Lib.countB s sep) s
def pSplit (s sep : S) : Prop := sm s ∧ sep = lit [32]
end Go.Ev
end

section
/- The plain library: what the functions of dates compute. -/
set_option linter.unusedVariables false
namespace Go.Ev
def mIsLeap (y : Int) : Bool := decide (y % 4 = 0) && (decide (y % 100 ≠ 0) || decide (y % 400 = 0))
def pIsLeap (y : Int) : Prop := 0 ≤ y
def mL4Months (y : Int) : List Int := if mIsLeap y = true then [31, 29, 31, 30, 31, 30, 31, 31, 30, 31, 30, 31] else [31, 28, 31, 30, 31, 30, 31, 31, 30, 31, 30, 31]
def pL4Months (y : Int) : Prop := 0 ≤ y
def mMonthDays (y m : Int) : Int := rx (mL4Months y) (m - 1)
def pMonthDays (y m : Int) : Prop := 0 ≤ y ∧ 1 ≤ m ∧ m ≤ 12
def mYearDays (y : Int) : Int := if mIsLeap y = true then 366 else 365
def pYearDays (y : Int) : Prop := 0 ≤ y
def daysY : Nat → Int
  | 0 => 0
  | k + 1 => daysY k + mYearDays (1970 + (k : Int))
def daysM (y : Int) : Nat → Int
  | 0 => 0
  | k + 1 => daysM y k + mMonthDays y ((k : Int) + 1)
def mDaysOf (y m d : Int) : Int := if (mIn y 1970 2037 && mIn m 1 12 && mIn d 1 (mMonthDays y m)) = true then d - 1 + daysY (y - 1970).toNat + daysM y (m - 1).toNat else -1
def pDaysOf (y m d : Int) : Prop := True
def twoL (n : Nat) : List UInt8 := [UInt8.ofNat (48 + n / 10), UInt8.ofNat (48 + n % 10)]
def mTwo (n : Int) : S := ob (twoL n.toNat)
def pTwo (n : Int) : Prop := 0 ≤ n ∧ n ≤ 99
def mL4Two (n : Int) : S := mTwo n
def pL4Two (n : Int) : Prop := 0 ≤ n ∧ n ≤ 99
def weekL : List S := [(lit [84, 104, 117]), (lit [70, 114, 105]), (lit [83, 97, 116]), (lit [83, 117, 110]), (lit [77, 111, 110]), (lit [84, 117, 101]), (lit [87, 101, 100])]
def monthL : List S := [(lit [74, 97, 110]), (lit [70, 101, 98]), (lit [77, 97, 114]), (lit [65, 112, 114]), (lit [77, 97, 121]), (lit [74, 117, 110]), (lit [74, 117, 108]), (lit [65, 117, 103]), (lit [83, 101, 112]), (lit [79, 99, 116]), (lit [78, 111, 118]), (lit [68, 101, 99])]
def mMonths (_ : Unit) : List S := monthL
def pMonths (_ : Unit) : Prop := True
def yearL (y : Nat) : List UInt8 := [UInt8.ofNat (48 + y / 1000), UInt8.ofNat (48 + y / 100 % 10), UInt8.ofNat (48 + y / 10 % 10), UInt8.ofNat (48 + y % 10)]
def showT (a y j d : Int) : S :=
  ((((((((((((((rx weekL (a / 86400 % 7)) ++ (lit [44, 32])) ++ mTwo d) ++ (lit [32])) ++ rx monthL j) ++ (lit [32])) ++ mDec y) ++ (lit [32])) ++ mTwo (a / 3600 % 24)) ++ (lit [58])) ++ mTwo (a / 60 % 60)) ++ (lit [58])) ++ mTwo (a % 60)) ++ (lit [32, 71, 77, 84]))
def civil (n : Int) (k j : Nat) : Prop := k < 67 ∧ j < 12 ∧ daysY k + daysM (1970 + (k : Int)) j ≤ n ∧ n < daysY k + daysM (1970 + (k : Int)) (j + 1)
open Classical in
noncomputable def mShowDate (a : Int) : S :=
  if h : 0 ≤ a ∧ a ≤ 2000000000 ∧ ∃ p : Nat × Nat, civil (a / 86400) p.1 p.2 then
    showT a (1970 + ((Classical.choose h.2.2).1 : Int)) ((Classical.choose h.2.2).2 : Int) (a / 86400 - daysY (Classical.choose h.2.2).1 - daysM (1970 + ((Classical.choose h.2.2).1 : Int)) (Classical.choose h.2.2).2 + 1)
  else lit []
def pShowDate (a : Int) : Prop := in64 a
end Go.Ev
end

section
/- The plain library: how dates and seconds are read. -/
set_option linter.unusedVariables false
namespace Go.Ev
def isDig (b : UInt8) : Bool := decide (48 ≤ b.toNat ∧ b.toNat ≤ 57)
def valFrom (a : Nat) (l : List UInt8) : Nat := l.foldl (fun a b => a * 10 + (b.toNat - 48)) a
def valL (l : List UInt8) : Nat := valFrom 0 l
def numL (l : List UInt8) : Int := if l.all isDig = true then (valL l : Int) else -1
def mL4Num (s : S) (i n : Int) : Int := numL (((bs s).drop i.toNat).take n.toNat)
def pL4Num (s : S) (i n : Int) : Prop := 0 ≤ i ∧ 0 ≤ n ∧ n ≤ 4 ∧ i + n ≤ (s.size : Int) ∧ sm s
def mNumber (s : S) : Int := if (bs s).all isDig = true then atoiV s else -1
def pNumber (s : S) : Prop := sm s
def isDate (s : S) (t : Int) : Prop := 0 ≤ t ∧ t ≤ 2000000000 ∧ mShowDate t = s
open Classical in
noncomputable def mReadDate (s : S) : Int × Bool := if h : ∃ t, isDate s t then (Classical.choose h, true) else (0, false)
def pReadDate (s : S) : Prop := sm s
noncomputable def mDateOf (l : List Fld) (n : S) : Int × Bool := if (mFieldGet l n).2 = true then mReadDate (mFieldGet l n).1 else (0, false)
def pDateOf (l : List Fld) (n : S) : Prop := md l
def mSeconds (s : S) : Int × Bool := if (bs s).all isDig = true ∧ s.size ≠ 0 then ((min (valL (bs s)) 2147483648 : Nat), true) else (0, false)
def pSeconds (s : S) : Prop := sm s
def monU (n : S) : Nat → Int
  | 0 => 0
  | i + 1 => if n = rx monthL (i : Int) then ((i + 1 : Nat) : Int) else monU n i
end Go.Ev
end

section
/- The plain library: lifetimes, ages, what is fresh, what is not modified. -/
set_option linter.unusedVariables false
namespace Go.Ev
def sDate : S := lit [100, 97, 116, 101]
def sLast : S := lit [108, 97, 115, 116, 45, 109, 111, 100, 105, 102, 105, 101, 100]
def sMinFresh : S := lit [109, 105, 110, 45, 102, 114, 101, 115, 104]
noncomputable def ccF (n : S) (x : Int × Bool) (d : Fld) : Int × Bool := if d.1 = n then ((if (mSeconds d.2).1 < x.1 then (mSeconds d.2).1 else x.1), true) else x
noncomputable def ccFold (n : S) (l : List Fld) : Int × Bool := l.foldl (ccF n) (2147483648, false)
noncomputable def mCcSeconds (l : List Fld) (n : S) : Int × Bool := if (ccFold n (mDirectives l)).2 = true then ((ccFold n (mDirectives l)).1, true) else (0, false)
def pCcSeconds (l : List Fld) (n : S) : Prop := md l
def mLater (a b : Int) : Int := if b < 0 then 0 else if a ≤ b then 0 else a - b
def pLater (a b : Int) : Prop := in64 a ∧ in64 b
def mSatAdd (a b : Int) : Int := if 2147483648 < mWithin a + mWithin b then 2147483648 else mWithin a + mWithin b
def pSatAdd (a b : Int) : Prop := True
noncomputable def mFirstAge (r : Rsp) (a1 a2 : Int) : Int :=
  if (if (mDateOf r.2.1 sDate).2 = true then mWithin (mLater a2 (mDateOf r.2.1 sDate).1) else 0) < mSatAdd (mSeconds (mFieldGet r.2.1 sAge).1).1 (mLater a2 a1) then mSatAdd (mSeconds (mFieldGet r.2.1 sAge).1).1 (mLater a2 a1)
  else (if (mDateOf r.2.1 sDate).2 = true then mWithin (mLater a2 (mDateOf r.2.1 sDate).1) else 0)
def pFirstAge (r : Rsp) (a1 a2 : Int) : Prop := md r.2.1 ∧ in64 a1 ∧ in64 a2
noncomputable def mAgeAt (r : Rsp) (a1 a2 a3 : Int) : Int := mSatAdd (mFirstAge r a1 a2) (mLater a3 a2)
def pAgeAt (r : Rsp) (a1 a2 a3 : Int) : Prop := md r.2.1 ∧ in64 a1 ∧ in64 a2 ∧ in64 a3
open Classical in
noncomputable def mLifetime (r : Rsp) : Int :=
  if (mCcSeconds r.2.1 sSMaxAge).2 = true then (mCcSeconds r.2.1 sSMaxAge).1
  else if (mCcSeconds r.2.1 sMaxAge).2 = true then (mCcSeconds r.2.1 sMaxAge).1
  else if (mFieldGet r.2.1 sExpires).2 = true then
    (if (mDateOf r.2.1 sExpires).2 = true ∧ (mDateOf r.2.1 sDate).2 = true then mLater (mDateOf r.2.1 sExpires).1 (mDateOf r.2.1 sDate).1 else 0)
  else (if (mDateOf r.2.1 sLast).2 = true ∧ (mDateOf r.2.1 sDate).2 = true then (mLater (mDateOf r.2.1 sDate).1 (mDateOf r.2.1 sLast).1).tdiv 10 else 0)
def pLifetime (r : Rsp) : Prop := md r.2.1
noncomputable def mMustCheck (q : Req) (r : Rsp) (a1 a2 a3 : Int) : Bool :=
  mCcHas q.2.2.1 sNoCache || (mCcHas r.2.1 sNoCache || (((mCcSeconds q.2.2.1 sMaxAge).2 && decide ((mCcSeconds q.2.2.1 sMaxAge).1 < mAgeAt r a1 a2 a3)) ||
    (((mCcSeconds q.2.2.1 sMinFresh).2 && decide (mLifetime r < mSatAdd (mAgeAt r a1 a2 a3) (mCcSeconds q.2.2.1 sMinFresh).1)) || decide (mLifetime r ≤ mAgeAt r a1 a2 a3))))
def pMustCheck (q : Req) (r : Rsp) (a1 a2 a3 : Int) : Prop := md q.2.2.1 ∧ md r.2.1 ∧ in64 a1 ∧ in64 a2 ∧ in64 a3
end Go.Ev
end

section
/- What the program's functions come to, each by itself: printed by a program of this session's own (EwShow) out of the small machine. -/
set_option linter.unusedVariables false
namespace Go.Ev

def s_impl_AgeAt (a0 : Rsp) (a1 : Int) (a2 : Int) (a3 : Int) (Q : (Int → Prop)) : Prop :=
  pFirstAge a0 a1 a2 ∧
  pLater a3 a2 ∧
  pSatAdd (mFirstAge a0 a1 a2) (mLater a3 a2) ∧
  (Q (mSatAdd (mFirstAge a0 a1 a2) (mLater a3 a2)))

def s_impl_CcSeconds (a0 : (List Fld)) (a1 : S) (Q : ((Int × Bool) → Prop)) : Prop :=
  pDirectives a0 ∧
  (∀ L0 : ((Int × (Bool × Int)) → Prop),
    ((
        (∀ y1 : (Int × (Bool × Int)),
          ((
              (y1.2.2 < ((mDirectives a0).length : Int) →
                0 ≤ y1.2.2 ∧
                y1.2.2 < ((mDirectives a0).length : Int) ∧
                ((rx (mDirectives a0) y1.2.2).1 ≠ a1 →
                  (L0 (y1.1, y1.2.1, (IntKind.i64.wrap (y1.2.2 + 1))))) ∧
                (¬ ((rx (mDirectives a0) y1.2.2).1 ≠ a1) →
                  pSeconds (rx (mDirectives a0) y1.2.2).2 ∧
                  (¬ (y1.2.1 = true) →
                    (L0 ((mSeconds (rx (mDirectives a0) y1.2.2).2).1, true, (IntKind.i64.wrap (y1.2.2 + 1))))) ∧
                  (¬ (¬ (y1.2.1 = true)) →
                    ((mSeconds (rx (mDirectives a0) y1.2.2).2).1 < y1.1 →
                      (L0 ((mSeconds (rx (mDirectives a0) y1.2.2).2).1, true, (IntKind.i64.wrap (y1.2.2 + 1))))) ∧
                    (¬ ((mSeconds (rx (mDirectives a0) y1.2.2).2).1 < y1.1) →
                      (L0 (y1.1, true, (IntKind.i64.wrap (y1.2.2 + 1)))))))) ∧
              (¬ (y1.2.2 < ((mDirectives a0).length : Int)) →
                (Q (y1.1, y1.2.1)))
            ) →
            (L0 y1)))
      ) →
      (L0 (0, false, 0))))

def s_impl_FirstAge (a0 : Rsp) (a1 : Int) (a2 : Int) (Q : (Int → Prop)) : Prop :=
  pDateOf a0.2.1 (lit [100, 97, 116, 101]) ∧
  ((mDateOf a0.2.1 (lit [100, 97, 116, 101])).2 = true →
    pLater a2 (mDateOf a0.2.1 (lit [100, 97, 116, 101])).1 ∧
    pWithin (mLater a2 (mDateOf a0.2.1 (lit [100, 97, 116, 101])).1) ∧
    pFieldGet a0.2.1 (lit [97, 103, 101]) ∧
    pSeconds (mFieldGet a0.2.1 (lit [97, 103, 101])).1 ∧
    pLater a2 a1 ∧
    pSatAdd (mSeconds (mFieldGet a0.2.1 (lit [97, 103, 101])).1).1 (mLater a2 a1) ∧
    (Q (if (mWithin (mLater a2 (mDateOf a0.2.1 (lit [100, 97, 116, 101])).1)) < (mSatAdd (mSeconds (mFieldGet a0.2.1 (lit [97, 103, 101])).1).1 (mLater a2 a1)) then (mSatAdd (mSeconds (mFieldGet a0.2.1 (lit [97, 103, 101])).1).1 (mLater a2 a1)) else (mWithin (mLater a2 (mDateOf a0.2.1 (lit [100, 97, 116, 101])).1))))) ∧
  (¬ ((mDateOf a0.2.1 (lit [100, 97, 116, 101])).2 = true) →
    pFieldGet a0.2.1 (lit [97, 103, 101]) ∧
    pSeconds (mFieldGet a0.2.1 (lit [97, 103, 101])).1 ∧
    pLater a2 a1 ∧
    pSatAdd (mSeconds (mFieldGet a0.2.1 (lit [97, 103, 101])).1).1 (mLater a2 a1) ∧
    (Q (if 0 < (mSatAdd (mSeconds (mFieldGet a0.2.1 (lit [97, 103, 101])).1).1 (mLater a2 a1)) then (mSatAdd (mSeconds (mFieldGet a0.2.1 (lit [97, 103, 101])).1).1 (mLater a2 a1)) else 0)))

def s_impl_Lifetime (a0 : Rsp) (Q : (Int → Prop)) : Prop :=
  (∀ L0 : (Int → Prop),
    ((
        (∀ y1 : Int,
          ((
              (y1 < ([(lit [115, 45, 109, 97, 120, 97, 103, 101]), (lit [109, 97, 120, 45, 97, 103, 101])].length : Int) →
                0 ≤ y1 ∧
                y1 < ([(lit [115, 45, 109, 97, 120, 97, 103, 101]), (lit [109, 97, 120, 45, 97, 103, 101])].length : Int) ∧
                pCcSeconds a0.2.1 (rx [(lit [115, 45, 109, 97, 120, 97, 103, 101]), (lit [109, 97, 120, 45, 97, 103, 101])] y1) ∧
                ((mCcSeconds a0.2.1 (rx [(lit [115, 45, 109, 97, 120, 97, 103, 101]), (lit [109, 97, 120, 45, 97, 103, 101])] y1)).2 = true →
                  (Q (mCcSeconds a0.2.1 (rx [(lit [115, 45, 109, 97, 120, 97, 103, 101]), (lit [109, 97, 120, 45, 97, 103, 101])] y1)).1)) ∧
                (¬ ((mCcSeconds a0.2.1 (rx [(lit [115, 45, 109, 97, 120, 97, 103, 101]), (lit [109, 97, 120, 45, 97, 103, 101])] y1)).2 = true) →
                  (L0 (IntKind.i64.wrap (y1 + 1))))) ∧
              (¬ (y1 < ([(lit [115, 45, 109, 97, 120, 97, 103, 101]), (lit [109, 97, 120, 45, 97, 103, 101])].length : Int)) →
                pDateOf a0.2.1 (lit [100, 97, 116, 101]) ∧
                pHasField a0.2.1 (lit [101, 120, 112, 105, 114, 101, 115]) ∧
                ((mHasField a0.2.1 (lit [101, 120, 112, 105, 114, 101, 115])) = true →
                  pDateOf a0.2.1 (lit [101, 120, 112, 105, 114, 101, 115]) ∧
                  (¬ ((mDateOf a0.2.1 (lit [101, 120, 112, 105, 114, 101, 115])).2 = true) →
                    (Q 0)) ∧
                  (¬ (¬ ((mDateOf a0.2.1 (lit [101, 120, 112, 105, 114, 101, 115])).2 = true)) →
                    (¬ ((mDateOf a0.2.1 (lit [100, 97, 116, 101])).2 = true) →
                      (Q 0)) ∧
                    (¬ (¬ ((mDateOf a0.2.1 (lit [100, 97, 116, 101])).2 = true)) →
                      pLater (mDateOf a0.2.1 (lit [101, 120, 112, 105, 114, 101, 115])).1 (mDateOf a0.2.1 (lit [100, 97, 116, 101])).1 ∧
                      (Q (mLater (mDateOf a0.2.1 (lit [101, 120, 112, 105, 114, 101, 115])).1 (mDateOf a0.2.1 (lit [100, 97, 116, 101])).1))))) ∧
                (¬ ((mHasField a0.2.1 (lit [101, 120, 112, 105, 114, 101, 115])) = true) →
                  pDateOf a0.2.1 (lit [108, 97, 115, 116, 45, 109, 111, 100, 105, 102, 105, 101, 100]) ∧
                  (¬ ((mDateOf a0.2.1 (lit [108, 97, 115, 116, 45, 109, 111, 100, 105, 102, 105, 101, 100])).2 = true) →
                    (Q 0)) ∧
                  (¬ (¬ ((mDateOf a0.2.1 (lit [108, 97, 115, 116, 45, 109, 111, 100, 105, 102, 105, 101, 100])).2 = true)) →
                    (¬ ((mDateOf a0.2.1 (lit [100, 97, 116, 101])).2 = true) →
                      (Q 0)) ∧
                    (¬ (¬ ((mDateOf a0.2.1 (lit [100, 97, 116, 101])).2 = true)) →
                      pLater (mDateOf a0.2.1 (lit [100, 97, 116, 101])).1 (mDateOf a0.2.1 (lit [108, 97, 115, 116, 45, 109, 111, 100, 105, 102, 105, 101, 100])).1 ∧
                      (10 : Int) ≠ 0 ∧
                      (Q (IntKind.i64.wrap ((mLater (mDateOf a0.2.1 (lit [100, 97, 116, 101])).1 (mDateOf a0.2.1 (lit [108, 97, 115, 116, 45, 109, 111, 100, 105, 102, 105, 101, 100])).1).tdiv 10)))))))
            ) →
            (L0 y1)))
      ) →
      (L0 0)))

def s_impl_MustCheck (a0 : Req) (a1 : Rsp) (a2 : Int) (a3 : Int) (a4 : Int) (Q : (Bool → Prop)) : Prop :=
  pCcHas a0.2.2.1 (lit [110, 111, 45, 99, 97, 99, 104, 101]) ∧
  ((mCcHas a0.2.2.1 (lit [110, 111, 45, 99, 97, 99, 104, 101])) = true →
    (Q true)) ∧
  (¬ ((mCcHas a0.2.2.1 (lit [110, 111, 45, 99, 97, 99, 104, 101])) = true) →
    pCcHas a1.2.1 (lit [110, 111, 45, 99, 97, 99, 104, 101]) ∧
    ((mCcHas a1.2.1 (lit [110, 111, 45, 99, 97, 99, 104, 101])) = true →
      (Q true)) ∧
    (¬ ((mCcHas a1.2.1 (lit [110, 111, 45, 99, 97, 99, 104, 101])) = true) →
      pAgeAt a1 a2 a3 a4 ∧
      pLifetime a1 ∧
      pCcSeconds a0.2.2.1 (lit [109, 97, 120, 45, 97, 103, 101]) ∧
      ((mCcSeconds a0.2.2.1 (lit [109, 97, 120, 45, 97, 103, 101])).2 = true →
        ((mCcSeconds a0.2.2.1 (lit [109, 97, 120, 45, 97, 103, 101])).1 < (mAgeAt a1 a2 a3 a4) →
          (Q true)) ∧
        (¬ ((mCcSeconds a0.2.2.1 (lit [109, 97, 120, 45, 97, 103, 101])).1 < (mAgeAt a1 a2 a3 a4)) →
          pCcSeconds a0.2.2.1 (lit [109, 105, 110, 45, 102, 114, 101, 115, 104]) ∧
          ((mCcSeconds a0.2.2.1 (lit [109, 105, 110, 45, 102, 114, 101, 115, 104])).2 = true →
            pSatAdd (mAgeAt a1 a2 a3 a4) (mCcSeconds a0.2.2.1 (lit [109, 105, 110, 45, 102, 114, 101, 115, 104])).1 ∧
            ((mLifetime a1) < (mSatAdd (mAgeAt a1 a2 a3 a4) (mCcSeconds a0.2.2.1 (lit [109, 105, 110, 45, 102, 114, 101, 115, 104])).1) →
              (Q true)) ∧
            (¬ ((mLifetime a1) < (mSatAdd (mAgeAt a1 a2 a3 a4) (mCcSeconds a0.2.2.1 (lit [109, 105, 110, 45, 102, 114, 101, 115, 104])).1)) →
              (Q (decide ((mLifetime a1) ≤ (mAgeAt a1 a2 a3 a4)))))) ∧
          (¬ ((mCcSeconds a0.2.2.1 (lit [109, 105, 110, 45, 102, 114, 101, 115, 104])).2 = true) →
            (Q (decide ((mLifetime a1) ≤ (mAgeAt a1 a2 a3 a4))))))) ∧
      (¬ ((mCcSeconds a0.2.2.1 (lit [109, 97, 120, 45, 97, 103, 101])).2 = true) →
        pCcSeconds a0.2.2.1 (lit [109, 105, 110, 45, 102, 114, 101, 115, 104]) ∧
        ((mCcSeconds a0.2.2.1 (lit [109, 105, 110, 45, 102, 114, 101, 115, 104])).2 = true →
          pSatAdd (mAgeAt a1 a2 a3 a4) (mCcSeconds a0.2.2.1 (lit [109, 105, 110, 45, 102, 114, 101, 115, 104])).1 ∧
          ((mLifetime a1) < (mSatAdd (mAgeAt a1 a2 a3 a4) (mCcSeconds a0.2.2.1 (lit [109, 105, 110, 45, 102, 114, 101, 115, 104])).1) →
            (Q true)) ∧
          (¬ ((mLifetime a1) < (mSatAdd (mAgeAt a1 a2 a3 a4) (mCcSeconds a0.2.2.1 (lit [109, 105, 110, 45, 102, 114, 101, 115, 104])).1)) →
            (Q (decide ((mLifetime a1) ≤ (mAgeAt a1 a2 a3 a4)))))) ∧
        (¬ ((mCcSeconds a0.2.2.1 (lit [109, 105, 110, 45, 102, 114, 101, 115, 104])).2 = true) →
          (Q (decide ((mLifetime a1) ≤ (mAgeAt a1 a2 a3 a4))))))))

def s_impl_SatAdd (a0 : Int) (a1 : Int) (Q : (Int → Prop)) : Prop :=
  pWithin a0 ∧
  pWithin a1 ∧
  (Q (if 2147483648 < (IntKind.i64.wrap ((mWithin a0) + (mWithin a1))) then 2147483648 else (IntKind.i64.wrap ((mWithin a0) + (mWithin a1)))))

def s_impl_later (a0 : Int) (a1 : Int) (Q : (Int → Prop)) : Prop :=
  (a1 < 0 →
    (Q 0)) ∧
  (¬ (a1 < 0) →
    (a0 ≤ a1 →
      (Q 0)) ∧
    (¬ (a0 ≤ a1) →
      (Q (IntKind.i64.wrap (a0 - a1)))))

def s_laws_FnExactMustCheck (a0 : Req) (a1 : Rsp) (a2 : Int) (a3 : Int) (a4 : Int) (Q : (Bool → Prop)) : Prop :=
  pSz a0 1048576 ∧
  ((szF a0 1048576) < 0 →
    (Q true)) ∧
  (¬ ((szF a0 1048576) < 0) →
    pSz a1 (szF a0 1048576) ∧
    ((szF a1 (szF a0 1048576)) < 0 →
      (Q true)) ∧
    (¬ ((szF a1 (szF a0 1048576)) < 0) →
      pTo a0 ∧
      pTo a1 ∧
      pMustCheck (toF a0) (toF a1) a2 a3 a4 ∧
      pTo a0 ∧
      pTo a1 ∧
      pMustCheck (toF a0) (toF a1) a2 a3 a4 ∧
      ((mMustCheck (toF a0) (toF a1) a2 a3 a4) ≠ (mMustCheck (toF a0) (toF a1) a2 a3 a4) →
        (Q false)) ∧
      (¬ ((mMustCheck (toF a0) (toF a1) a2 a3 a4) ≠ (mMustCheck (toF a0) (toF a1) a2 a3 a4)) →
        pTo a0 ∧
        pEq (toF a0) (toF a0) ∧
        (¬ ((eqF (toF a0) (toF a0)) = true) →
          (Q false)) ∧
        (¬ (¬ ((eqF (toF a0) (toF a0)) = true)) →
          pTo a1 ∧
          pEq (toF a1) (toF a1) ∧
          (¬ ((eqF (toF a1) (toF a1)) = true) →
            (Q false)) ∧
          (¬ (¬ ((eqF (toF a1) (toF a1)) = true)) →
            (Q true))))))

def s_spec_AgeAt (a0 : Rsp) (a1 : Int) (a2 : Int) (a3 : Int) (Q : (Int → Prop)) : Prop :=
  (a2 < a3 →
    (0 ≤ a2 →
      pFirstAge a0 a1 a2 ∧
      pSatAdd (mFirstAge a0 a1 a2) (IntKind.i64.wrap (a3 - a2)) ∧
      (Q (mSatAdd (mFirstAge a0 a1 a2) (IntKind.i64.wrap (a3 - a2))))) ∧
    (¬ (0 ≤ a2) →
      pFirstAge a0 a1 a2 ∧
      pSatAdd (mFirstAge a0 a1 a2) 0 ∧
      (Q (mSatAdd (mFirstAge a0 a1 a2) 0)))) ∧
  (¬ (a2 < a3) →
    pFirstAge a0 a1 a2 ∧
    pSatAdd (mFirstAge a0 a1 a2) 0 ∧
    (Q (mSatAdd (mFirstAge a0 a1 a2) 0)))

def s_spec_CcSeconds (a0 : (List Fld)) (a1 : S) (Q : ((Int × Bool) → Prop)) : Prop :=
  pDirectives a0 ∧
  (∀ L0 : ((Int × (Bool × Int)) → Prop),
    ((
        (∀ y1 : (Int × (Bool × Int)),
          ((
              (y1.2.2 < ((mDirectives a0).length : Int) →
                0 ≤ y1.2.2 ∧
                y1.2.2 < ((mDirectives a0).length : Int) ∧
                ((rx (mDirectives a0) y1.2.2).1 = a1 →
                  0 ≤ y1.2.2 ∧
                  y1.2.2 < ((mDirectives a0).length : Int) ∧
                  pSeconds (rx (mDirectives a0) y1.2.2).2 ∧
                  (L0 ((if (mSeconds (rx (mDirectives a0) y1.2.2).2).1 < y1.1 then (mSeconds (rx (mDirectives a0) y1.2.2).2).1 else y1.1), true, (IntKind.i64.wrap (y1.2.2 + 1))))) ∧
                (¬ ((rx (mDirectives a0) y1.2.2).1 = a1) →
                  (L0 (y1.1, y1.2.1, (IntKind.i64.wrap (y1.2.2 + 1)))))) ∧
              (¬ (y1.2.2 < ((mDirectives a0).length : Int)) →
                (¬ (y1.2.1 = true) →
                  (Q (0, false))) ∧
                (¬ (¬ (y1.2.1 = true)) →
                  (Q (y1.1, true))))
            ) →
            (L0 y1)))
      ) →
      (L0 (2147483648, false, 0))))

def s_spec_FirstAge (a0 : Rsp) (a1 : Int) (a2 : Int) (Q : (Int → Prop)) : Prop :=
  pFieldGet a0.2.1 (lit [97, 103, 101]) ∧
  pSeconds (mFieldGet a0.2.1 (lit [97, 103, 101])).1 ∧
  pDateOf a0.2.1 (lit [100, 97, 116, 101]) ∧
  ((mDateOf a0.2.1 (lit [100, 97, 116, 101])).2 = true →
    ((mDateOf a0.2.1 (lit [100, 97, 116, 101])).1 < a2 →
      (a1 < a2 →
        (0 ≤ a1 →
          pSatAdd (mSeconds (mFieldGet a0.2.1 (lit [97, 103, 101])).1).1 (IntKind.i64.wrap (a2 - a1)) ∧
          (Q (if (if 2147483648 < (IntKind.i64.wrap (a2 - (mDateOf a0.2.1 (lit [100, 97, 116, 101])).1)) then 2147483648 else (IntKind.i64.wrap (a2 - (mDateOf a0.2.1 (lit [100, 97, 116, 101])).1))) < (mSatAdd (mSeconds (mFieldGet a0.2.1 (lit [97, 103, 101])).1).1 (IntKind.i64.wrap (a2 - a1))) then (mSatAdd (mSeconds (mFieldGet a0.2.1 (lit [97, 103, 101])).1).1 (IntKind.i64.wrap (a2 - a1))) else (if 2147483648 < (IntKind.i64.wrap (a2 - (mDateOf a0.2.1 (lit [100, 97, 116, 101])).1)) then 2147483648 else (IntKind.i64.wrap (a2 - (mDateOf a0.2.1 (lit [100, 97, 116, 101])).1)))))) ∧
        (¬ (0 ≤ a1) →
          pSatAdd (mSeconds (mFieldGet a0.2.1 (lit [97, 103, 101])).1).1 0 ∧
          (Q (if (if 2147483648 < (IntKind.i64.wrap (a2 - (mDateOf a0.2.1 (lit [100, 97, 116, 101])).1)) then 2147483648 else (IntKind.i64.wrap (a2 - (mDateOf a0.2.1 (lit [100, 97, 116, 101])).1))) < (mSatAdd (mSeconds (mFieldGet a0.2.1 (lit [97, 103, 101])).1).1 0) then (mSatAdd (mSeconds (mFieldGet a0.2.1 (lit [97, 103, 101])).1).1 0) else (if 2147483648 < (IntKind.i64.wrap (a2 - (mDateOf a0.2.1 (lit [100, 97, 116, 101])).1)) then 2147483648 else (IntKind.i64.wrap (a2 - (mDateOf a0.2.1 (lit [100, 97, 116, 101])).1))))))) ∧
      (¬ (a1 < a2) →
        pSatAdd (mSeconds (mFieldGet a0.2.1 (lit [97, 103, 101])).1).1 0 ∧
        (Q (if (if 2147483648 < (IntKind.i64.wrap (a2 - (mDateOf a0.2.1 (lit [100, 97, 116, 101])).1)) then 2147483648 else (IntKind.i64.wrap (a2 - (mDateOf a0.2.1 (lit [100, 97, 116, 101])).1))) < (mSatAdd (mSeconds (mFieldGet a0.2.1 (lit [97, 103, 101])).1).1 0) then (mSatAdd (mSeconds (mFieldGet a0.2.1 (lit [97, 103, 101])).1).1 0) else (if 2147483648 < (IntKind.i64.wrap (a2 - (mDateOf a0.2.1 (lit [100, 97, 116, 101])).1)) then 2147483648 else (IntKind.i64.wrap (a2 - (mDateOf a0.2.1 (lit [100, 97, 116, 101])).1))))))) ∧
    (¬ ((mDateOf a0.2.1 (lit [100, 97, 116, 101])).1 < a2) →
      (a1 < a2 →
        (0 ≤ a1 →
          pSatAdd (mSeconds (mFieldGet a0.2.1 (lit [97, 103, 101])).1).1 (IntKind.i64.wrap (a2 - a1)) ∧
          (Q (if 0 < (mSatAdd (mSeconds (mFieldGet a0.2.1 (lit [97, 103, 101])).1).1 (IntKind.i64.wrap (a2 - a1))) then (mSatAdd (mSeconds (mFieldGet a0.2.1 (lit [97, 103, 101])).1).1 (IntKind.i64.wrap (a2 - a1))) else 0))) ∧
        (¬ (0 ≤ a1) →
          pSatAdd (mSeconds (mFieldGet a0.2.1 (lit [97, 103, 101])).1).1 0 ∧
          (Q (if 0 < (mSatAdd (mSeconds (mFieldGet a0.2.1 (lit [97, 103, 101])).1).1 0) then (mSatAdd (mSeconds (mFieldGet a0.2.1 (lit [97, 103, 101])).1).1 0) else 0)))) ∧
      (¬ (a1 < a2) →
        pSatAdd (mSeconds (mFieldGet a0.2.1 (lit [97, 103, 101])).1).1 0 ∧
        (Q (if 0 < (mSatAdd (mSeconds (mFieldGet a0.2.1 (lit [97, 103, 101])).1).1 0) then (mSatAdd (mSeconds (mFieldGet a0.2.1 (lit [97, 103, 101])).1).1 0) else 0))))) ∧
  (¬ ((mDateOf a0.2.1 (lit [100, 97, 116, 101])).2 = true) →
    (a1 < a2 →
      (0 ≤ a1 →
        pSatAdd (mSeconds (mFieldGet a0.2.1 (lit [97, 103, 101])).1).1 (IntKind.i64.wrap (a2 - a1)) ∧
        (Q (if 0 < (mSatAdd (mSeconds (mFieldGet a0.2.1 (lit [97, 103, 101])).1).1 (IntKind.i64.wrap (a2 - a1))) then (mSatAdd (mSeconds (mFieldGet a0.2.1 (lit [97, 103, 101])).1).1 (IntKind.i64.wrap (a2 - a1))) else 0))) ∧
      (¬ (0 ≤ a1) →
        pSatAdd (mSeconds (mFieldGet a0.2.1 (lit [97, 103, 101])).1).1 0 ∧
        (Q (if 0 < (mSatAdd (mSeconds (mFieldGet a0.2.1 (lit [97, 103, 101])).1).1 0) then (mSatAdd (mSeconds (mFieldGet a0.2.1 (lit [97, 103, 101])).1).1 0) else 0)))) ∧
    (¬ (a1 < a2) →
      pSatAdd (mSeconds (mFieldGet a0.2.1 (lit [97, 103, 101])).1).1 0 ∧
      (Q (if 0 < (mSatAdd (mSeconds (mFieldGet a0.2.1 (lit [97, 103, 101])).1).1 0) then (mSatAdd (mSeconds (mFieldGet a0.2.1 (lit [97, 103, 101])).1).1 0) else 0))))

def s_spec_Lifetime (a0 : Rsp) (Q : (Int → Prop)) : Prop :=
  pCcSeconds a0.2.1 (lit [115, 45, 109, 97, 120, 97, 103, 101]) ∧
  ((mCcSeconds a0.2.1 (lit [115, 45, 109, 97, 120, 97, 103, 101])).2 = true →
    (Q (mCcSeconds a0.2.1 (lit [115, 45, 109, 97, 120, 97, 103, 101])).1)) ∧
  (¬ ((mCcSeconds a0.2.1 (lit [115, 45, 109, 97, 120, 97, 103, 101])).2 = true) →
    pCcSeconds a0.2.1 (lit [109, 97, 120, 45, 97, 103, 101]) ∧
    ((mCcSeconds a0.2.1 (lit [109, 97, 120, 45, 97, 103, 101])).2 = true →
      (Q (mCcSeconds a0.2.1 (lit [109, 97, 120, 45, 97, 103, 101])).1)) ∧
    (¬ ((mCcSeconds a0.2.1 (lit [109, 97, 120, 45, 97, 103, 101])).2 = true) →
      pDateOf a0.2.1 (lit [100, 97, 116, 101]) ∧
      pFieldGet a0.2.1 (lit [101, 120, 112, 105, 114, 101, 115]) ∧
      ((mFieldGet a0.2.1 (lit [101, 120, 112, 105, 114, 101, 115])).2 = true →
        pDateOf a0.2.1 (lit [101, 120, 112, 105, 114, 101, 115]) ∧
        (¬ ((mDateOf a0.2.1 (lit [101, 120, 112, 105, 114, 101, 115])).2 = true) →
          (Q 0)) ∧
        (¬ (¬ ((mDateOf a0.2.1 (lit [101, 120, 112, 105, 114, 101, 115])).2 = true)) →
          (¬ ((mDateOf a0.2.1 (lit [100, 97, 116, 101])).2 = true) →
            (Q 0)) ∧
          (¬ (¬ ((mDateOf a0.2.1 (lit [100, 97, 116, 101])).2 = true)) →
            (Q (if 0 < (IntKind.i64.wrap ((mDateOf a0.2.1 (lit [101, 120, 112, 105, 114, 101, 115])).1 - (mDateOf a0.2.1 (lit [100, 97, 116, 101])).1)) then (IntKind.i64.wrap ((mDateOf a0.2.1 (lit [101, 120, 112, 105, 114, 101, 115])).1 - (mDateOf a0.2.1 (lit [100, 97, 116, 101])).1)) else 0))))) ∧
      (¬ ((mFieldGet a0.2.1 (lit [101, 120, 112, 105, 114, 101, 115])).2 = true) →
        pDateOf a0.2.1 (lit [108, 97, 115, 116, 45, 109, 111, 100, 105, 102, 105, 101, 100]) ∧
        ((mDateOf a0.2.1 (lit [100, 97, 116, 101])).2 = true →
          ((mDateOf a0.2.1 (lit [108, 97, 115, 116, 45, 109, 111, 100, 105, 102, 105, 101, 100])).2 = true →
            (10 : Int) ≠ 0 ∧
            (Q (IntKind.i64.wrap ((if 0 < (IntKind.i64.wrap ((mDateOf a0.2.1 (lit [100, 97, 116, 101])).1 - (mDateOf a0.2.1 (lit [108, 97, 115, 116, 45, 109, 111, 100, 105, 102, 105, 101, 100])).1)) then (IntKind.i64.wrap ((mDateOf a0.2.1 (lit [100, 97, 116, 101])).1 - (mDateOf a0.2.1 (lit [108, 97, 115, 116, 45, 109, 111, 100, 105, 102, 105, 101, 100])).1)) else 0).tdiv 10)))) ∧
          (¬ ((mDateOf a0.2.1 (lit [108, 97, 115, 116, 45, 109, 111, 100, 105, 102, 105, 101, 100])).2 = true) →
            (Q 0))) ∧
        (¬ ((mDateOf a0.2.1 (lit [100, 97, 116, 101])).2 = true) →
          (Q 0)))))

def s_spec_MustCheck (a0 : Req) (a1 : Rsp) (a2 : Int) (a3 : Int) (a4 : Int) (Q : (Bool → Prop)) : Prop :=
  pCcHas a0.2.2.1 (lit [110, 111, 45, 99, 97, 99, 104, 101]) ∧
  ((mCcHas a0.2.2.1 (lit [110, 111, 45, 99, 97, 99, 104, 101])) = true →
    (Q true)) ∧
  (¬ ((mCcHas a0.2.2.1 (lit [110, 111, 45, 99, 97, 99, 104, 101])) = true) →
    pCcHas a1.2.1 (lit [110, 111, 45, 99, 97, 99, 104, 101]) ∧
    ((mCcHas a1.2.1 (lit [110, 111, 45, 99, 97, 99, 104, 101])) = true →
      (Q true)) ∧
    (¬ ((mCcHas a1.2.1 (lit [110, 111, 45, 99, 97, 99, 104, 101])) = true) →
      pAgeAt a1 a2 a3 a4 ∧
      pLifetime a1 ∧
      pCcSeconds a0.2.2.1 (lit [109, 97, 120, 45, 97, 103, 101]) ∧
      ((mCcSeconds a0.2.2.1 (lit [109, 97, 120, 45, 97, 103, 101])).2 = true →
        ((mCcSeconds a0.2.2.1 (lit [109, 97, 120, 45, 97, 103, 101])).1 < (mAgeAt a1 a2 a3 a4) →
          (Q true)) ∧
        (¬ ((mCcSeconds a0.2.2.1 (lit [109, 97, 120, 45, 97, 103, 101])).1 < (mAgeAt a1 a2 a3 a4)) →
          pCcSeconds a0.2.2.1 (lit [109, 105, 110, 45, 102, 114, 101, 115, 104]) ∧
          ((mCcSeconds a0.2.2.1 (lit [109, 105, 110, 45, 102, 114, 101, 115, 104])).2 = true →
            pSatAdd (mAgeAt a1 a2 a3 a4) (mCcSeconds a0.2.2.1 (lit [109, 105, 110, 45, 102, 114, 101, 115, 104])).1 ∧
            ((mLifetime a1) < (mSatAdd (mAgeAt a1 a2 a3 a4) (mCcSeconds a0.2.2.1 (lit [109, 105, 110, 45, 102, 114, 101, 115, 104])).1) →
              (Q true)) ∧
            (¬ ((mLifetime a1) < (mSatAdd (mAgeAt a1 a2 a3 a4) (mCcSeconds a0.2.2.1 (lit [109, 105, 110, 45, 102, 114, 101, 115, 104])).1)) →
              (Q (decide ((mLifetime a1) ≤ (mAgeAt a1 a2 a3 a4)))))) ∧
          (¬ ((mCcSeconds a0.2.2.1 (lit [109, 105, 110, 45, 102, 114, 101, 115, 104])).2 = true) →
            (Q (decide ((mLifetime a1) ≤ (mAgeAt a1 a2 a3 a4))))))) ∧
      (¬ ((mCcSeconds a0.2.2.1 (lit [109, 97, 120, 45, 97, 103, 101])).2 = true) →
        pCcSeconds a0.2.2.1 (lit [109, 105, 110, 45, 102, 114, 101, 115, 104]) ∧
        ((mCcSeconds a0.2.2.1 (lit [109, 105, 110, 45, 102, 114, 101, 115, 104])).2 = true →
          pSatAdd (mAgeAt a1 a2 a3 a4) (mCcSeconds a0.2.2.1 (lit [109, 105, 110, 45, 102, 114, 101, 115, 104])).1 ∧
          ((mLifetime a1) < (mSatAdd (mAgeAt a1 a2 a3 a4) (mCcSeconds a0.2.2.1 (lit [109, 105, 110, 45, 102, 114, 101, 115, 104])).1) →
            (Q true)) ∧
          (¬ ((mLifetime a1) < (mSatAdd (mAgeAt a1 a2 a3 a4) (mCcSeconds a0.2.2.1 (lit [109, 105, 110, 45, 102, 114, 101, 115, 104])).1)) →
            (Q (decide ((mLifetime a1) ≤ (mAgeAt a1 a2 a3 a4)))))) ∧
        (¬ ((mCcSeconds a0.2.2.1 (lit [109, 105, 110, 45, 102, 114, 101, 115, 104])).2 = true) →
          (Q (decide ((mLifetime a1) ≤ (mAgeAt a1 a2 a3 a4))))))))

def s_spec_SatAdd (a0 : Int) (a1 : Int) (Q : (Int → Prop)) : Prop :=
  (Q (if 2147483648 < (IntKind.i64.wrap ((if 0 < (if 2147483648 < a0 then 2147483648 else a0) then (if 2147483648 < a0 then 2147483648 else a0) else 0) + (if 0 < (if 2147483648 < a1 then 2147483648 else a1) then (if 2147483648 < a1 then 2147483648 else a1) else 0))) then 2147483648 else (IntKind.i64.wrap ((if 0 < (if 2147483648 < a0 then 2147483648 else a0) then (if 2147483648 < a0 then 2147483648 else a0) else 0) + (if 0 < (if 2147483648 < a1 then 2147483648 else a1) then (if 2147483648 < a1 then 2147483648 else a1) else 0)))))

end Go.Ev
end

section
/- What the functions that read dates come to: printed by a program of this session's own (EwShow) out of the small machine. -/
set_option linter.unusedVariables false
namespace Go.Ev

def s_impl_DateOf (a0 : (List Fld)) (a1 : S) (Q : ((Int × Bool) → Prop)) : Prop :=
  pFieldGet a0 a1 ∧
  (¬ ((mFieldGet a0 a1).2 = true) →
    (Q (0, false))) ∧
  (¬ (¬ ((mFieldGet a0 a1).2 = true)) →
    pReadDate (mFieldGet a0 a1).1 ∧
    (Q (mReadDate (mFieldGet a0 a1).1)))

def s_impl_ReadDate (a0 : S) (Q : ((Int × Bool) → Prop)) : Prop :=
  pSplit a0 (lit [32]) ∧
  (((mSplit a0 (lit [32])).length : Int) ≠ 6 →
    (Q (0, false))) ∧
  (¬ (((mSplit a0 (lit [32])).length : Int) ≠ 6) →
    ((a0.size : Int) ≠ 29 →
      (Q (0, false))) ∧
    (¬ ((a0.size : Int) ≠ 29) →
      (0 : Int) ≤ 4 ∧
      4 < ((mSplit a0 (lit [32])).length : Int) ∧
      (((rx (mSplit a0 (lit [32])) 4).size : Int) ≠ 8 →
        (Q (0, false))) ∧
      (¬ (((rx (mSplit a0 (lit [32])) 4).size : Int) ≠ 8) →
        (0 : Int) ≤ 3 ∧
        3 < ((mSplit a0 (lit [32])).length : Int) ∧
        (((rx (mSplit a0 (lit [32])) 3).size : Int) ≠ 4 →
          (Q (0, false))) ∧
        (¬ (((rx (mSplit a0 (lit [32])) 3).size : Int) ≠ 4) →
          (0 : Int) ≤ 4 ∧
          4 < ((mSplit a0 (lit [32])).length : Int) ∧
          (0 : Int) ≤ 3 ∧
          3 < ((mSplit a0 (lit [32])).length : Int) ∧
          pNumber (rx (mSplit a0 (lit [32])) 3) ∧
          pMonths () ∧
          (0 : Int) ≤ 2 ∧
          2 < ((mSplit a0 (lit [32])).length : Int) ∧
          pIndex_string monthL (rx (mSplit a0 (lit [32])) 2) ∧
          (0 : Int) ≤ 1 ∧
          1 < ((mSplit a0 (lit [32])).length : Int) ∧
          pNumber (rx (mSplit a0 (lit [32])) 1) ∧
          pDaysOf (mNumber (rx (mSplit a0 (lit [32])) 3)) (IntKind.i64.wrap ((mIndex_string monthL (rx (mSplit a0 (lit [32])) 2)) + 1)) (mNumber (rx (mSplit a0 (lit [32])) 1)) ∧
          ((mDaysOf (mNumber (rx (mSplit a0 (lit [32])) 3)) (IntKind.i64.wrap ((mIndex_string monthL (rx (mSplit a0 (lit [32])) 2)) + 1)) (mNumber (rx (mSplit a0 (lit [32])) 1))) < 0 →
            (Q (0, false))) ∧
          (¬ ((mDaysOf (mNumber (rx (mSplit a0 (lit [32])) 3)) (IntKind.i64.wrap ((mIndex_string monthL (rx (mSplit a0 (lit [32])) 2)) + 1)) (mNumber (rx (mSplit a0 (lit [32])) 1))) < 0) →
            (0 : Int) ≤ 2 ∧
            2 ≤ ((rx (mSplit a0 (lit [32])) 4).size : Int) ∧
            pNumber ((rx (mSplit a0 (lit [32])) 4).extract 0 ((2 : Int).toNat)) ∧
            (0 : Int) ≤ 3 ∧
            (3 : Int) ≤ 5 ∧
            5 ≤ ((rx (mSplit a0 (lit [32])) 4).size : Int) ∧
            pNumber ((rx (mSplit a0 (lit [32])) 4).extract ((3 : Int).toNat) ((5 : Int).toNat)) ∧
            (0 : Int) ≤ 6 ∧
            6 ≤ ((rx (mSplit a0 (lit [32])) 4).size : Int) ∧
            pNumber ((rx (mSplit a0 (lit [32])) 4).extract ((6 : Int).toNat) (rx (mSplit a0 (lit [32])) 4).size) ∧
            pShowDate (IntKind.i64.wrap ((IntKind.i64.wrap ((IntKind.i64.wrap ((IntKind.i64.wrap ((mDaysOf (mNumber (rx (mSplit a0 (lit [32])) 3)) (IntKind.i64.wrap ((mIndex_string monthL (rx (mSplit a0 (lit [32])) 2)) + 1)) (mNumber (rx (mSplit a0 (lit [32])) 1))) * 86400)) + (IntKind.i64.wrap (3600 * (mNumber ((rx (mSplit a0 (lit [32])) 4).extract 0 ((2 : Int).toNat))))))) + (IntKind.i64.wrap (60 * (mNumber ((rx (mSplit a0 (lit [32])) 4).extract ((3 : Int).toNat) ((5 : Int).toNat))))))) + (mNumber ((rx (mSplit a0 (lit [32])) 4).extract ((6 : Int).toNat) (rx (mSplit a0 (lit [32])) 4).size)))) ∧
            ((mShowDate (IntKind.i64.wrap ((IntKind.i64.wrap ((IntKind.i64.wrap ((IntKind.i64.wrap ((mDaysOf (mNumber (rx (mSplit a0 (lit [32])) 3)) (IntKind.i64.wrap ((mIndex_string monthL (rx (mSplit a0 (lit [32])) 2)) + 1)) (mNumber (rx (mSplit a0 (lit [32])) 1))) * 86400)) + (IntKind.i64.wrap (3600 * (mNumber ((rx (mSplit a0 (lit [32])) 4).extract 0 ((2 : Int).toNat))))))) + (IntKind.i64.wrap (60 * (mNumber ((rx (mSplit a0 (lit [32])) 4).extract ((3 : Int).toNat) ((5 : Int).toNat))))))) + (mNumber ((rx (mSplit a0 (lit [32])) 4).extract ((6 : Int).toNat) (rx (mSplit a0 (lit [32])) 4).size))))) ≠ a0 →
              (Q (0, false))) ∧
            (¬ ((mShowDate (IntKind.i64.wrap ((IntKind.i64.wrap ((IntKind.i64.wrap ((IntKind.i64.wrap ((mDaysOf (mNumber (rx (mSplit a0 (lit [32])) 3)) (IntKind.i64.wrap ((mIndex_string monthL (rx (mSplit a0 (lit [32])) 2)) + 1)) (mNumber (rx (mSplit a0 (lit [32])) 1))) * 86400)) + (IntKind.i64.wrap (3600 * (mNumber ((rx (mSplit a0 (lit [32])) 4).extract 0 ((2 : Int).toNat))))))) + (IntKind.i64.wrap (60 * (mNumber ((rx (mSplit a0 (lit [32])) 4).extract ((3 : Int).toNat) ((5 : Int).toNat))))))) + (mNumber ((rx (mSplit a0 (lit [32])) 4).extract ((6 : Int).toNat) (rx (mSplit a0 (lit [32])) 4).size))))) ≠ a0) →
              (Q ((IntKind.i64.wrap ((IntKind.i64.wrap ((IntKind.i64.wrap ((IntKind.i64.wrap ((mDaysOf (mNumber (rx (mSplit a0 (lit [32])) 3)) (IntKind.i64.wrap ((mIndex_string monthL (rx (mSplit a0 (lit [32])) 2)) + 1)) (mNumber (rx (mSplit a0 (lit [32])) 1))) * 86400)) + (IntKind.i64.wrap (3600 * (mNumber ((rx (mSplit a0 (lit [32])) 4).extract 0 ((2 : Int).toNat))))))) + (IntKind.i64.wrap (60 * (mNumber ((rx (mSplit a0 (lit [32])) 4).extract ((3 : Int).toNat) ((5 : Int).toNat))))))) + (mNumber ((rx (mSplit a0 (lit [32])) 4).extract ((6 : Int).toNat) (rx (mSplit a0 (lit [32])) 4).size)))), true))))))))

def s_impl_Seconds (a0 : S) (Q : ((Int × Bool) → Prop)) : Prop :=
  (∀ L0 : (Int → Prop),
    ((
        (∀ y1 : Int,
          ((
              (y1 < (a0.size : Int) →
                0 ≤ y1 ∧
                y1 < (a0.size : Int) ∧
                ((bt a0 y1) < 48 →
                  (Q (0, false))) ∧
                (¬ ((bt a0 y1) < 48) →
                  0 ≤ y1 ∧
                  y1 < (a0.size : Int) ∧
                  (57 < (bt a0 y1) →
                    (Q (0, false))) ∧
                  (¬ (57 < (bt a0 y1)) →
                    (L0 (IntKind.i64.wrap (y1 + 1)))))) ∧
              (¬ (y1 < (a0.size : Int)) →
                (a0 = (lit []) →
                  (Q (0, false))) ∧
                (¬ (a0 = (lit [])) →
                  pTrimLeft a0 (lit [48]) ∧
                  (10 < ((mTrimLeft a0 (lit [48])).size : Int) →
                    (Q (2147483648, true))) ∧
                  (¬ (10 < ((mTrimLeft a0 (lit [48])).size : Int)) →
                    (lit [48]).size + (mTrimLeft a0 (lit [48])).size ≤ 9223372036854775807 ∧
                    pAtoi ((lit [48]) ++ (mTrimLeft a0 (lit [48]))) ∧
                    (Q ((if 2147483648 < (mAtoi ((lit [48]) ++ (mTrimLeft a0 (lit [48])))).1 then 2147483648 else (mAtoi ((lit [48]) ++ (mTrimLeft a0 (lit [48])))).1), true)))))
            ) →
            (L0 y1)))
      ) →
      (L0 0)))

def s_impl_number (a0 : S) (Q : (Int → Prop)) : Prop :=
  (∀ L0 : (Int → Prop),
    ((
        (∀ y1 : Int,
          ((
              (y1 < (a0.size : Int) →
                0 ≤ y1 ∧
                y1 < (a0.size : Int) ∧
                ((bt a0 y1) < 48 →
                  (Q (-1))) ∧
                (¬ ((bt a0 y1) < 48) →
                  0 ≤ y1 ∧
                  y1 < (a0.size : Int) ∧
                  (57 < (bt a0 y1) →
                    (Q (-1))) ∧
                  (¬ (57 < (bt a0 y1)) →
                    (L0 (IntKind.i64.wrap (y1 + 1)))))) ∧
              (¬ (y1 < (a0.size : Int)) →
                pAtoi a0 ∧
                (Q (mAtoi a0).1))
            ) →
            (L0 y1)))
      ) →
      (L0 0)))

def s_spec_DateOf (a0 : (List Fld)) (a1 : S) (Q : ((Int × Bool) → Prop)) : Prop :=
  pFieldGet a0 a1 ∧
  (¬ ((mFieldGet a0 a1).2 = true) →
    (Q (0, false))) ∧
  (¬ (¬ ((mFieldGet a0 a1).2 = true)) →
    pReadDate (mFieldGet a0 a1).1 ∧
    (Q (mReadDate (mFieldGet a0 a1).1)))

def s_spec_ReadDate (a0 : S) (Q : ((Int × Bool) → Prop)) : Prop :=
  ((a0.size : Int) ≠ 29 →
    (Q (0, false))) ∧
  (¬ ((a0.size : Int) ≠ 29) →
    (∀ L0 : ((Int × Int) → Prop),
      ((
          (∀ y1 : (Int × Int),
            ((
                (y1.2 ≤ 12 →
                  (0 : Int) ≤ 8 ∧
                  (8 : Int) ≤ 11 ∧
                  11 ≤ (a0.size : Int) ∧
                  0 ≤ (IntKind.i64.wrap (y1.2 - 1)) ∧
                  (IntKind.i64.wrap (y1.2 - 1)) < (monthL.length : Int) ∧
                  ((a0.extract ((8 : Int).toNat) ((11 : Int).toNat)) = (rx monthL (IntKind.i64.wrap (y1.2 - 1))) →
                    (L0 (y1.2, (IntKind.i64.wrap (y1.2 + 1))))) ∧
                  (¬ ((a0.extract ((8 : Int).toNat) ((11 : Int).toNat)) = (rx monthL (IntKind.i64.wrap (y1.2 - 1)))) →
                    (L0 (y1.1, (IntKind.i64.wrap (y1.2 + 1)))))) ∧
                (¬ (y1.2 ≤ 12) →
                  pL4Num a0 12 4 ∧
                  pL4Num a0 5 2 ∧
                  pDaysOf (mL4Num a0 12 4) y1.1 (mL4Num a0 5 2) ∧
                  pL4Num a0 17 2 ∧
                  pL4Num a0 20 2 ∧
                  pL4Num a0 23 2 ∧
                  ((mDaysOf (mL4Num a0 12 4) y1.1 (mL4Num a0 5 2)) < 0 →
                    (Q (0, false))) ∧
                  (¬ ((mDaysOf (mL4Num a0 12 4) y1.1 (mL4Num a0 5 2)) < 0) →
                    ((mL4Num a0 17 2) < 0 →
                      (Q (0, false))) ∧
                    (¬ ((mL4Num a0 17 2) < 0) →
                      ((mL4Num a0 20 2) < 0 →
                        (Q (0, false))) ∧
                      (¬ ((mL4Num a0 20 2) < 0) →
                        ((mL4Num a0 23 2) < 0 →
                          (Q (0, false))) ∧
                        (¬ ((mL4Num a0 23 2) < 0) →
                          pShowDate (IntKind.i64.wrap ((IntKind.i64.wrap ((IntKind.i64.wrap ((IntKind.i64.wrap ((mDaysOf (mL4Num a0 12 4) y1.1 (mL4Num a0 5 2)) * 86400)) + (IntKind.i64.wrap ((mL4Num a0 17 2) * 3600)))) + (IntKind.i64.wrap ((mL4Num a0 20 2) * 60)))) + (mL4Num a0 23 2))) ∧
                          ((mShowDate (IntKind.i64.wrap ((IntKind.i64.wrap ((IntKind.i64.wrap ((IntKind.i64.wrap ((mDaysOf (mL4Num a0 12 4) y1.1 (mL4Num a0 5 2)) * 86400)) + (IntKind.i64.wrap ((mL4Num a0 17 2) * 3600)))) + (IntKind.i64.wrap ((mL4Num a0 20 2) * 60)))) + (mL4Num a0 23 2)))) ≠ a0 →
                            (Q (0, false))) ∧
                          (¬ ((mShowDate (IntKind.i64.wrap ((IntKind.i64.wrap ((IntKind.i64.wrap ((IntKind.i64.wrap ((mDaysOf (mL4Num a0 12 4) y1.1 (mL4Num a0 5 2)) * 86400)) + (IntKind.i64.wrap ((mL4Num a0 17 2) * 3600)))) + (IntKind.i64.wrap ((mL4Num a0 20 2) * 60)))) + (mL4Num a0 23 2)))) ≠ a0) →
                            (Q ((IntKind.i64.wrap ((IntKind.i64.wrap ((IntKind.i64.wrap ((IntKind.i64.wrap ((mDaysOf (mL4Num a0 12 4) y1.1 (mL4Num a0 5 2)) * 86400)) + (IntKind.i64.wrap ((mL4Num a0 17 2) * 3600)))) + (IntKind.i64.wrap ((mL4Num a0 20 2) * 60)))) + (mL4Num a0 23 2))), true))))))))
              ) →
              (L0 y1)))
        ) →
        (L0 (0, 1)))))

def s_spec_Seconds (a0 : S) (Q : ((Int × Bool) → Prop)) : Prop :=
  (∀ L0 : ((Int × Int) → Prop),
    ((
        (∀ y1 : (Int × Int),
          ((
              (y1.2 < (a0.size : Int) →
                0 ≤ y1.2 ∧
                y1.2 < (a0.size : Int) ∧
                ((bt a0 y1.2) < 48 →
                  (Q (0, false))) ∧
                (¬ ((bt a0 y1.2) < 48) →
                  0 ≤ y1.2 ∧
                  y1.2 < (a0.size : Int) ∧
                  (57 < (bt a0 y1.2) →
                    (Q (0, false))) ∧
                  (¬ (57 < (bt a0 y1.2)) →
                    0 ≤ y1.2 ∧
                    y1.2 < (a0.size : Int) ∧
                    (L0 ((if 2147483648 < (IntKind.i64.wrap ((IntKind.i64.wrap (y1.1 * 10)) + (IntKind.i64.wrap (IntKind.u8.wrap ((bt a0 y1.2) - 48))))) then 2147483648 else (IntKind.i64.wrap ((IntKind.i64.wrap (y1.1 * 10)) + (IntKind.i64.wrap (IntKind.u8.wrap ((bt a0 y1.2) - 48)))))), (IntKind.i64.wrap (y1.2 + 1))))))) ∧
              (¬ (y1.2 < (a0.size : Int)) →
                (Q (y1.1, (decide (0 < (a0.size : Int))))))
            ) →
            (L0 y1)))
      ) →
      (L0 (0, 0))))

def s_spec_l4Num (a0 : S) (a1 : Int) (a2 : Int) (Q : (Int → Prop)) : Prop :=
  (∀ L0 : ((Int × Int) → Prop),
    ((
        (∀ y1 : (Int × Int),
          ((
              (y1.2 < (IntKind.i64.wrap (a1 + a2)) →
                0 ≤ y1.2 ∧
                y1.2 < (a0.size : Int) ∧
                ((bt a0 y1.2) < 48 →
                  (Q (-1))) ∧
                (¬ ((bt a0 y1.2) < 48) →
                  0 ≤ y1.2 ∧
                  y1.2 < (a0.size : Int) ∧
                  (57 < (bt a0 y1.2) →
                    (Q (-1))) ∧
                  (¬ (57 < (bt a0 y1.2)) →
                    0 ≤ y1.2 ∧
                    y1.2 < (a0.size : Int) ∧
                    (L0 ((IntKind.i64.wrap ((IntKind.i64.wrap (y1.1 * 10)) + (IntKind.i64.wrap (IntKind.u8.wrap ((bt a0 y1.2) - 48))))), (IntKind.i64.wrap (y1.2 + 1))))))) ∧
              (¬ (y1.2 < (IntKind.i64.wrap (a1 + a2))) →
                (Q y1.1))
            ) →
            (L0 y1)))
      ) →
      (L0 (0, a1))))

end Go.Ev
end

section
/- What the functions of dates come to: printed by a program of this session's own (EwShow) out of the small machine. -/
set_option linter.unusedVariables false
namespace Go.Ev

def s_impl_DaysOf (a0 : Int) (a1 : Int) (a2 : Int) (Q : (Int → Prop)) : Prop :=
  pIn a0 1970 2037 ∧
  (¬ ((mIn a0 1970 2037) = true) →
    (Q (-1))) ∧
  (¬ (¬ ((mIn a0 1970 2037) = true)) →
    pIn a1 1 12 ∧
    (¬ ((mIn a1 1 12) = true) →
      (Q (-1))) ∧
    (¬ (¬ ((mIn a1 1 12) = true)) →
      pMonthDays a0 a1 ∧
      pIn a2 1 (mMonthDays a0 a1) ∧
      (¬ ((mIn a2 1 (mMonthDays a0 a1)) = true) →
        (Q (-1))) ∧
      (¬ (¬ ((mIn a2 1 (mMonthDays a0 a1)) = true)) →
        (∀ L0 : ((Int × Int) → Prop),
          ((
              (∀ y1 : (Int × Int),
                ((
                    (y1.2 < a0 →
                      pYearDays y1.2 ∧
                      (L0 ((IntKind.i64.wrap (y1.1 + (mYearDays y1.2))), (IntKind.i64.wrap (y1.2 + 1))))) ∧
                    (¬ (y1.2 < a0) →
                      (∀ L2 : ((Int × Int) → Prop),
                        ((
                            (∀ y3 : (Int × Int),
                              ((
                                  (y3.2 < a1 →
                                    pMonthDays a0 y3.2 ∧
                                    (L2 ((IntKind.i64.wrap (y3.1 + (mMonthDays a0 y3.2))), (IntKind.i64.wrap (y3.2 + 1))))) ∧
                                  (¬ (y3.2 < a1) →
                                    (Q y3.1))
                                ) →
                                (L2 y3)))
                          ) →
                          (L2 (y1.1, 1)))))
                  ) →
                  (L0 y1)))
            ) →
            (L0 ((IntKind.i64.wrap (a2 - 1)), 1970)))))))

def s_impl_IsLeap (a0 : Int) (Q : (Bool → Prop)) : Prop :=
  (4 : Int) ≠ 0 ∧
  ((a0.tmod 4) = 0 →
    (100 : Int) ≠ 0 ∧
    ((a0.tmod 100) ≠ 0 →
      (Q true)) ∧
    (¬ ((a0.tmod 100) ≠ 0) →
      (400 : Int) ≠ 0 ∧
      (Q (decide ((a0.tmod 400) = 0))))) ∧
  (¬ ((a0.tmod 4) = 0) →
    (400 : Int) ≠ 0 ∧
    (Q (decide ((a0.tmod 400) = 0))))

def s_impl_ShowDate (a0 : Int) (Q : (S → Prop)) : Prop :=
  pIn a0 0 2000000000 ∧
  (¬ ((mIn a0 0 2000000000) = true) →
    (Q (lit []))) ∧
  (¬ (¬ ((mIn a0 0 2000000000) = true)) →
    (86400 : Int) ≠ 0 ∧
    (86400 : Int) ≠ 0 ∧
    (7 : Int) ≠ 0 ∧
    0 ≤ ((IntKind.i64.wrap (a0.tdiv 86400)).tmod 7) ∧
    ((IntKind.i64.wrap (a0.tdiv 86400)).tmod 7) < (weekL.length : Int) ∧
    (∀ L0 : ((Int × Int) → Prop),
      ((
          (∀ y1 : (Int × Int),
            ((
                pYearDays y1.2 ∧
                ((mYearDays y1.2) ≤ y1.1 →
                  pYearDays y1.2 ∧
                  (L0 ((IntKind.i64.wrap (y1.1 - (mYearDays y1.2))), (IntKind.i64.wrap (y1.2 + 1))))) ∧
                (¬ ((mYearDays y1.2) ≤ y1.1) →
                  (∀ L2 : ((Int × Int) → Prop),
                    ((
                        (∀ y3 : (Int × Int),
                          ((
                              pMonthDays y1.2 y3.2 ∧
                              ((mMonthDays y1.2 y3.2) ≤ y3.1 →
                                pMonthDays y1.2 y3.2 ∧
                                (L2 ((IntKind.i64.wrap (y3.1 - (mMonthDays y1.2 y3.2))), (IntKind.i64.wrap (y3.2 + 1))))) ∧
                              (¬ ((mMonthDays y1.2 y3.2) ≤ y3.1) →
                                (rx weekL ((IntKind.i64.wrap (a0.tdiv 86400)).tmod 7)).size + (lit [44, 32]).size ≤ 9223372036854775807 ∧
                                pTwo (IntKind.i64.wrap (y3.1 + 1)) ∧
                                ((rx weekL ((IntKind.i64.wrap (a0.tdiv 86400)).tmod 7)) ++ (lit [44, 32])).size + (mTwo (IntKind.i64.wrap (y3.1 + 1))).size ≤ 9223372036854775807 ∧
                                (((rx weekL ((IntKind.i64.wrap (a0.tdiv 86400)).tmod 7)) ++ (lit [44, 32])) ++ (mTwo (IntKind.i64.wrap (y3.1 + 1)))).size + (lit [32]).size ≤ 9223372036854775807 ∧
                                pMonths () ∧
                                0 ≤ (IntKind.i64.wrap (y3.2 - 1)) ∧
                                (IntKind.i64.wrap (y3.2 - 1)) < (monthL.length : Int) ∧
                                ((((rx weekL ((IntKind.i64.wrap (a0.tdiv 86400)).tmod 7)) ++ (lit [44, 32])) ++ (mTwo (IntKind.i64.wrap (y3.1 + 1)))) ++ (lit [32])).size + (rx monthL (IntKind.i64.wrap (y3.2 - 1))).size ≤ 9223372036854775807 ∧
                                (((((rx weekL ((IntKind.i64.wrap (a0.tdiv 86400)).tmod 7)) ++ (lit [44, 32])) ++ (mTwo (IntKind.i64.wrap (y3.1 + 1)))) ++ (lit [32])) ++ (rx monthL (IntKind.i64.wrap (y3.2 - 1)))).size + (lit [32]).size ≤ 9223372036854775807 ∧
                                pItoa y1.2 ∧
                                ((((((rx weekL ((IntKind.i64.wrap (a0.tdiv 86400)).tmod 7)) ++ (lit [44, 32])) ++ (mTwo (IntKind.i64.wrap (y3.1 + 1)))) ++ (lit [32])) ++ (rx monthL (IntKind.i64.wrap (y3.2 - 1)))) ++ (lit [32])).size + (mItoa y1.2).size ≤ 9223372036854775807 ∧
                                (((((((rx weekL ((IntKind.i64.wrap (a0.tdiv 86400)).tmod 7)) ++ (lit [44, 32])) ++ (mTwo (IntKind.i64.wrap (y3.1 + 1)))) ++ (lit [32])) ++ (rx monthL (IntKind.i64.wrap (y3.2 - 1)))) ++ (lit [32])) ++ (mItoa y1.2)).size + (lit [32]).size ≤ 9223372036854775807 ∧
                                (3600 : Int) ≠ 0 ∧
                                pTwo (IntKind.i64.wrap ((a0.tmod 86400).tdiv 3600)) ∧
                                ((((((((rx weekL ((IntKind.i64.wrap (a0.tdiv 86400)).tmod 7)) ++ (lit [44, 32])) ++ (mTwo (IntKind.i64.wrap (y3.1 + 1)))) ++ (lit [32])) ++ (rx monthL (IntKind.i64.wrap (y3.2 - 1)))) ++ (lit [32])) ++ (mItoa y1.2)) ++ (lit [32])).size + (mTwo (IntKind.i64.wrap ((a0.tmod 86400).tdiv 3600))).size ≤ 9223372036854775807 ∧
                                (((((((((rx weekL ((IntKind.i64.wrap (a0.tdiv 86400)).tmod 7)) ++ (lit [44, 32])) ++ (mTwo (IntKind.i64.wrap (y3.1 + 1)))) ++ (lit [32])) ++ (rx monthL (IntKind.i64.wrap (y3.2 - 1)))) ++ (lit [32])) ++ (mItoa y1.2)) ++ (lit [32])) ++ (mTwo (IntKind.i64.wrap ((a0.tmod 86400).tdiv 3600)))).size + (lit [58]).size ≤ 9223372036854775807 ∧
                                (60 : Int) ≠ 0 ∧
                                (60 : Int) ≠ 0 ∧
                                pTwo ((IntKind.i64.wrap ((a0.tmod 86400).tdiv 60)).tmod 60) ∧
                                ((((((((((rx weekL ((IntKind.i64.wrap (a0.tdiv 86400)).tmod 7)) ++ (lit [44, 32])) ++ (mTwo (IntKind.i64.wrap (y3.1 + 1)))) ++ (lit [32])) ++ (rx monthL (IntKind.i64.wrap (y3.2 - 1)))) ++ (lit [32])) ++ (mItoa y1.2)) ++ (lit [32])) ++ (mTwo (IntKind.i64.wrap ((a0.tmod 86400).tdiv 3600)))) ++ (lit [58])).size + (mTwo ((IntKind.i64.wrap ((a0.tmod 86400).tdiv 60)).tmod 60)).size ≤ 9223372036854775807 ∧
                                (((((((((((rx weekL ((IntKind.i64.wrap (a0.tdiv 86400)).tmod 7)) ++ (lit [44, 32])) ++ (mTwo (IntKind.i64.wrap (y3.1 + 1)))) ++ (lit [32])) ++ (rx monthL (IntKind.i64.wrap (y3.2 - 1)))) ++ (lit [32])) ++ (mItoa y1.2)) ++ (lit [32])) ++ (mTwo (IntKind.i64.wrap ((a0.tmod 86400).tdiv 3600)))) ++ (lit [58])) ++ (mTwo ((IntKind.i64.wrap ((a0.tmod 86400).tdiv 60)).tmod 60))).size + (lit [58]).size ≤ 9223372036854775807 ∧
                                (60 : Int) ≠ 0 ∧
                                pTwo ((a0.tmod 86400).tmod 60) ∧
                                ((((((((((((rx weekL ((IntKind.i64.wrap (a0.tdiv 86400)).tmod 7)) ++ (lit [44, 32])) ++ (mTwo (IntKind.i64.wrap (y3.1 + 1)))) ++ (lit [32])) ++ (rx monthL (IntKind.i64.wrap (y3.2 - 1)))) ++ (lit [32])) ++ (mItoa y1.2)) ++ (lit [32])) ++ (mTwo (IntKind.i64.wrap ((a0.tmod 86400).tdiv 3600)))) ++ (lit [58])) ++ (mTwo ((IntKind.i64.wrap ((a0.tmod 86400).tdiv 60)).tmod 60))) ++ (lit [58])).size + (mTwo ((a0.tmod 86400).tmod 60)).size ≤ 9223372036854775807 ∧
                                (((((((((((((rx weekL ((IntKind.i64.wrap (a0.tdiv 86400)).tmod 7)) ++ (lit [44, 32])) ++ (mTwo (IntKind.i64.wrap (y3.1 + 1)))) ++ (lit [32])) ++ (rx monthL (IntKind.i64.wrap (y3.2 - 1)))) ++ (lit [32])) ++ (mItoa y1.2)) ++ (lit [32])) ++ (mTwo (IntKind.i64.wrap ((a0.tmod 86400).tdiv 3600)))) ++ (lit [58])) ++ (mTwo ((IntKind.i64.wrap ((a0.tmod 86400).tdiv 60)).tmod 60))) ++ (lit [58])) ++ (mTwo ((a0.tmod 86400).tmod 60))).size + (lit [32, 71, 77, 84]).size ≤ 9223372036854775807 ∧
                                (Q ((((((((((((((rx weekL ((IntKind.i64.wrap (a0.tdiv 86400)).tmod 7)) ++ (lit [44, 32])) ++ (mTwo (IntKind.i64.wrap (y3.1 + 1)))) ++ (lit [32])) ++ (rx monthL (IntKind.i64.wrap (y3.2 - 1)))) ++ (lit [32])) ++ (mItoa y1.2)) ++ (lit [32])) ++ (mTwo (IntKind.i64.wrap ((a0.tmod 86400).tdiv 3600)))) ++ (lit [58])) ++ (mTwo ((IntKind.i64.wrap ((a0.tmod 86400).tdiv 60)).tmod 60))) ++ (lit [58])) ++ (mTwo ((a0.tmod 86400).tmod 60))) ++ (lit [32, 71, 77, 84]))))
                            ) →
                            (L2 y3)))
                      ) →
                      (L2 (y1.1, 1)))))
              ) →
              (L0 y1)))
        ) →
        (L0 ((IntKind.i64.wrap (a0.tdiv 86400)), 1970)))))

def s_impl_monthDays (a0 : Int) (a1 : Int) (Q : (Int → Prop)) : Prop :=
  (a1 = 2 →
    pIsLeap a0 ∧
    ((mIsLeap a0) = true →
      (Q 29)) ∧
    (¬ ((mIsLeap a0) = true) →
      0 ≤ (IntKind.i64.wrap (a1 - 1)) ∧
      (IntKind.i64.wrap (a1 - 1)) < ([31, 28, 31, 30, 31, 30, 31, 31, 30, 31, 30, 31].length : Int) ∧
      (Q (rx [31, 28, 31, 30, 31, 30, 31, 31, 30, 31, 30, 31] (IntKind.i64.wrap (a1 - 1)))))) ∧
  (¬ (a1 = 2) →
    0 ≤ (IntKind.i64.wrap (a1 - 1)) ∧
    (IntKind.i64.wrap (a1 - 1)) < ([31, 28, 31, 30, 31, 30, 31, 31, 30, 31, 30, 31].length : Int) ∧
    (Q (rx [31, 28, 31, 30, 31, 30, 31, 31, 30, 31, 30, 31] (IntKind.i64.wrap (a1 - 1)))))

def s_impl_months (Q : ((List S) → Prop)) : Prop :=
  (Q monthL)

def s_impl_two (a0 : Int) (Q : (S → Prop)) : Prop :=
  pItoa (IntKind.i64.wrap (100 + a0)) ∧
  (0 : Int) ≤ 1 ∧
  1 ≤ ((mItoa (IntKind.i64.wrap (100 + a0))).size : Int) ∧
  (Q ((mItoa (IntKind.i64.wrap (100 + a0))).extract ((1 : Int).toNat) (mItoa (IntKind.i64.wrap (100 + a0))).size))

def s_impl_yearDays (a0 : Int) (Q : (Int → Prop)) : Prop :=
  pIsLeap a0 ∧
  ((mIsLeap a0) = true →
    (Q 366)) ∧
  (¬ ((mIsLeap a0) = true) →
    (Q 365))

def s_spec_DaysOf (a0 : Int) (a1 : Int) (a2 : Int) (Q : (Int → Prop)) : Prop :=
  pIn a0 1970 2037 ∧
  (¬ ((mIn a0 1970 2037) = true) →
    (Q (-1))) ∧
  (¬ (¬ ((mIn a0 1970 2037) = true)) →
    pIn a1 1 12 ∧
    (¬ ((mIn a1 1 12) = true) →
      (Q (-1))) ∧
    (¬ (¬ ((mIn a1 1 12) = true)) →
      pL4Months a0 ∧
      0 ≤ (IntKind.i64.wrap (a1 - 1)) ∧
      (IntKind.i64.wrap (a1 - 1)) < ((mL4Months a0).length : Int) ∧
      pIn a2 1 (rx (mL4Months a0) (IntKind.i64.wrap (a1 - 1))) ∧
      (¬ ((mIn a2 1 (rx (mL4Months a0) (IntKind.i64.wrap (a1 - 1)))) = true) →
        (Q (-1))) ∧
      (¬ (¬ ((mIn a2 1 (rx (mL4Months a0) (IntKind.i64.wrap (a1 - 1)))) = true)) →
        (∀ L0 : ((Int × Int) → Prop),
          ((
              (∀ y1 : (Int × Int),
                ((
                    (y1.2 < a0 →
                      pIsLeap y1.2 ∧
                      ((mIsLeap y1.2) = true →
                        (L0 ((IntKind.i64.wrap ((IntKind.i64.wrap (y1.1 + 365)) + 1)), (IntKind.i64.wrap (y1.2 + 1))))) ∧
                      (¬ ((mIsLeap y1.2) = true) →
                        (L0 ((IntKind.i64.wrap (y1.1 + 365)), (IntKind.i64.wrap (y1.2 + 1)))))) ∧
                    (¬ (y1.2 < a0) →
                      (∀ L2 : ((Int × Int) → Prop),
                        ((
                            (∀ y3 : (Int × Int),
                              ((
                                  (y3.2 < a1 →
                                    pL4Months a0 ∧
                                    0 ≤ (IntKind.i64.wrap (y3.2 - 1)) ∧
                                    (IntKind.i64.wrap (y3.2 - 1)) < ((mL4Months a0).length : Int) ∧
                                    (L2 ((IntKind.i64.wrap (y3.1 + (rx (mL4Months a0) (IntKind.i64.wrap (y3.2 - 1))))), (IntKind.i64.wrap (y3.2 + 1))))) ∧
                                  (¬ (y3.2 < a1) →
                                    (Q y3.1))
                                ) →
                                (L2 y3)))
                          ) →
                          (L2 (y1.1, 1)))))
                  ) →
                  (L0 y1)))
            ) →
            (L0 ((IntKind.i64.wrap (a2 - 1)), 1970)))))))

def s_spec_IsLeap (a0 : Int) (Q : (Bool → Prop)) : Prop :=
  (4 : Int) ≠ 0 ∧
  ((a0.tmod 4) = 0 →
    (100 : Int) ≠ 0 ∧
    ((a0.tmod 100) ≠ 0 →
      (Q true)) ∧
    (¬ ((a0.tmod 100) ≠ 0) →
      (400 : Int) ≠ 0 ∧
      (Q (decide ((a0.tmod 400) = 0))))) ∧
  (¬ ((a0.tmod 4) = 0) →
    (Q false))

def s_spec_ShowDate (a0 : Int) (Q : (S → Prop)) : Prop :=
  pIn a0 0 2000000000 ∧
  (¬ ((mIn a0 0 2000000000) = true) →
    (Q (lit []))) ∧
  (¬ (¬ ((mIn a0 0 2000000000) = true)) →
    (86400 : Int) ≠ 0 ∧
    (∀ L0 : (Int → Prop),
      ((
          (∀ y1 : Int,
            ((
                (y1 < 2037 →
                  pDaysOf (IntKind.i64.wrap (y1 + 1)) 1 1 ∧
                  ((mDaysOf (IntKind.i64.wrap (y1 + 1)) 1 1) ≤ (IntKind.i64.wrap (a0.tdiv 86400)) →
                    (L0 (IntKind.i64.wrap (y1 + 1)))) ∧
                  (¬ ((mDaysOf (IntKind.i64.wrap (y1 + 1)) 1 1) ≤ (IntKind.i64.wrap (a0.tdiv 86400))) →
                    (∀ L2 : (Int → Prop),
                      ((
                          (∀ y3 : Int,
                            ((
                                (y3 < 12 →
                                  pDaysOf y1 (IntKind.i64.wrap (y3 + 1)) 1 ∧
                                  ((mDaysOf y1 (IntKind.i64.wrap (y3 + 1)) 1) ≤ (IntKind.i64.wrap (a0.tdiv 86400)) →
                                    (L2 (IntKind.i64.wrap (y3 + 1)))) ∧
                                  (¬ ((mDaysOf y1 (IntKind.i64.wrap (y3 + 1)) 1) ≤ (IntKind.i64.wrap (a0.tdiv 86400))) →
                                    pDaysOf y1 y3 1 ∧
                                    (7 : Int) ≠ 0 ∧
                                    0 ≤ ((IntKind.i64.wrap (a0.tdiv 86400)).tmod 7) ∧
                                    ((IntKind.i64.wrap (a0.tdiv 86400)).tmod 7) < (weekL.length : Int) ∧
                                    0 ≤ (IntKind.i64.wrap (y3 - 1)) ∧
                                    (IntKind.i64.wrap (y3 - 1)) < (monthL.length : Int) ∧
                                    (rx weekL ((IntKind.i64.wrap (a0.tdiv 86400)).tmod 7)).size + (lit [44, 32]).size ≤ 9223372036854775807 ∧
                                    pL4Two (IntKind.i64.wrap ((IntKind.i64.wrap ((IntKind.i64.wrap (a0.tdiv 86400)) - (mDaysOf y1 y3 1))) + 1)) ∧
                                    ((rx weekL ((IntKind.i64.wrap (a0.tdiv 86400)).tmod 7)) ++ (lit [44, 32])).size + (mL4Two (IntKind.i64.wrap ((IntKind.i64.wrap ((IntKind.i64.wrap (a0.tdiv 86400)) - (mDaysOf y1 y3 1))) + 1))).size ≤ 9223372036854775807 ∧
                                    (((rx weekL ((IntKind.i64.wrap (a0.tdiv 86400)).tmod 7)) ++ (lit [44, 32])) ++ (mL4Two (IntKind.i64.wrap ((IntKind.i64.wrap ((IntKind.i64.wrap (a0.tdiv 86400)) - (mDaysOf y1 y3 1))) + 1)))).size + (lit [32]).size ≤ 9223372036854775807 ∧
                                    ((((rx weekL ((IntKind.i64.wrap (a0.tdiv 86400)).tmod 7)) ++ (lit [44, 32])) ++ (mL4Two (IntKind.i64.wrap ((IntKind.i64.wrap ((IntKind.i64.wrap (a0.tdiv 86400)) - (mDaysOf y1 y3 1))) + 1)))) ++ (lit [32])).size + (rx monthL (IntKind.i64.wrap (y3 - 1))).size ≤ 9223372036854775807 ∧
                                    (((((rx weekL ((IntKind.i64.wrap (a0.tdiv 86400)).tmod 7)) ++ (lit [44, 32])) ++ (mL4Two (IntKind.i64.wrap ((IntKind.i64.wrap ((IntKind.i64.wrap (a0.tdiv 86400)) - (mDaysOf y1 y3 1))) + 1)))) ++ (lit [32])) ++ (rx monthL (IntKind.i64.wrap (y3 - 1)))).size + (lit [32]).size ≤ 9223372036854775807 ∧
                                    pDec y1 ∧
                                    ((((((rx weekL ((IntKind.i64.wrap (a0.tdiv 86400)).tmod 7)) ++ (lit [44, 32])) ++ (mL4Two (IntKind.i64.wrap ((IntKind.i64.wrap ((IntKind.i64.wrap (a0.tdiv 86400)) - (mDaysOf y1 y3 1))) + 1)))) ++ (lit [32])) ++ (rx monthL (IntKind.i64.wrap (y3 - 1)))) ++ (lit [32])).size + (mDec y1).size ≤ 9223372036854775807 ∧
                                    (((((((rx weekL ((IntKind.i64.wrap (a0.tdiv 86400)).tmod 7)) ++ (lit [44, 32])) ++ (mL4Two (IntKind.i64.wrap ((IntKind.i64.wrap ((IntKind.i64.wrap (a0.tdiv 86400)) - (mDaysOf y1 y3 1))) + 1)))) ++ (lit [32])) ++ (rx monthL (IntKind.i64.wrap (y3 - 1)))) ++ (lit [32])) ++ (mDec y1)).size + (lit [32]).size ≤ 9223372036854775807 ∧
                                    (3600 : Int) ≠ 0 ∧
                                    (24 : Int) ≠ 0 ∧
                                    pL4Two ((IntKind.i64.wrap (a0.tdiv 3600)).tmod 24) ∧
                                    ((((((((rx weekL ((IntKind.i64.wrap (a0.tdiv 86400)).tmod 7)) ++ (lit [44, 32])) ++ (mL4Two (IntKind.i64.wrap ((IntKind.i64.wrap ((IntKind.i64.wrap (a0.tdiv 86400)) - (mDaysOf y1 y3 1))) + 1)))) ++ (lit [32])) ++ (rx monthL (IntKind.i64.wrap (y3 - 1)))) ++ (lit [32])) ++ (mDec y1)) ++ (lit [32])).size + (mL4Two ((IntKind.i64.wrap (a0.tdiv 3600)).tmod 24)).size ≤ 9223372036854775807 ∧
                                    (((((((((rx weekL ((IntKind.i64.wrap (a0.tdiv 86400)).tmod 7)) ++ (lit [44, 32])) ++ (mL4Two (IntKind.i64.wrap ((IntKind.i64.wrap ((IntKind.i64.wrap (a0.tdiv 86400)) - (mDaysOf y1 y3 1))) + 1)))) ++ (lit [32])) ++ (rx monthL (IntKind.i64.wrap (y3 - 1)))) ++ (lit [32])) ++ (mDec y1)) ++ (lit [32])) ++ (mL4Two ((IntKind.i64.wrap (a0.tdiv 3600)).tmod 24))).size + (lit [58]).size ≤ 9223372036854775807 ∧
                                    (60 : Int) ≠ 0 ∧
                                    (60 : Int) ≠ 0 ∧
                                    pL4Two ((IntKind.i64.wrap (a0.tdiv 60)).tmod 60) ∧
                                    ((((((((((rx weekL ((IntKind.i64.wrap (a0.tdiv 86400)).tmod 7)) ++ (lit [44, 32])) ++ (mL4Two (IntKind.i64.wrap ((IntKind.i64.wrap ((IntKind.i64.wrap (a0.tdiv 86400)) - (mDaysOf y1 y3 1))) + 1)))) ++ (lit [32])) ++ (rx monthL (IntKind.i64.wrap (y3 - 1)))) ++ (lit [32])) ++ (mDec y1)) ++ (lit [32])) ++ (mL4Two ((IntKind.i64.wrap (a0.tdiv 3600)).tmod 24))) ++ (lit [58])).size + (mL4Two ((IntKind.i64.wrap (a0.tdiv 60)).tmod 60)).size ≤ 9223372036854775807 ∧
                                    (((((((((((rx weekL ((IntKind.i64.wrap (a0.tdiv 86400)).tmod 7)) ++ (lit [44, 32])) ++ (mL4Two (IntKind.i64.wrap ((IntKind.i64.wrap ((IntKind.i64.wrap (a0.tdiv 86400)) - (mDaysOf y1 y3 1))) + 1)))) ++ (lit [32])) ++ (rx monthL (IntKind.i64.wrap (y3 - 1)))) ++ (lit [32])) ++ (mDec y1)) ++ (lit [32])) ++ (mL4Two ((IntKind.i64.wrap (a0.tdiv 3600)).tmod 24))) ++ (lit [58])) ++ (mL4Two ((IntKind.i64.wrap (a0.tdiv 60)).tmod 60))).size + (lit [58]).size ≤ 9223372036854775807 ∧
                                    (60 : Int) ≠ 0 ∧
                                    pL4Two (a0.tmod 60) ∧
                                    ((((((((((((rx weekL ((IntKind.i64.wrap (a0.tdiv 86400)).tmod 7)) ++ (lit [44, 32])) ++ (mL4Two (IntKind.i64.wrap ((IntKind.i64.wrap ((IntKind.i64.wrap (a0.tdiv 86400)) - (mDaysOf y1 y3 1))) + 1)))) ++ (lit [32])) ++ (rx monthL (IntKind.i64.wrap (y3 - 1)))) ++ (lit [32])) ++ (mDec y1)) ++ (lit [32])) ++ (mL4Two ((IntKind.i64.wrap (a0.tdiv 3600)).tmod 24))) ++ (lit [58])) ++ (mL4Two ((IntKind.i64.wrap (a0.tdiv 60)).tmod 60))) ++ (lit [58])).size + (mL4Two (a0.tmod 60)).size ≤ 9223372036854775807 ∧
                                    (((((((((((((rx weekL ((IntKind.i64.wrap (a0.tdiv 86400)).tmod 7)) ++ (lit [44, 32])) ++ (mL4Two (IntKind.i64.wrap ((IntKind.i64.wrap ((IntKind.i64.wrap (a0.tdiv 86400)) - (mDaysOf y1 y3 1))) + 1)))) ++ (lit [32])) ++ (rx monthL (IntKind.i64.wrap (y3 - 1)))) ++ (lit [32])) ++ (mDec y1)) ++ (lit [32])) ++ (mL4Two ((IntKind.i64.wrap (a0.tdiv 3600)).tmod 24))) ++ (lit [58])) ++ (mL4Two ((IntKind.i64.wrap (a0.tdiv 60)).tmod 60))) ++ (lit [58])) ++ (mL4Two (a0.tmod 60))).size + (lit [32, 71, 77, 84]).size ≤ 9223372036854775807 ∧
                                    (Q ((((((((((((((rx weekL ((IntKind.i64.wrap (a0.tdiv 86400)).tmod 7)) ++ (lit [44, 32])) ++ (mL4Two (IntKind.i64.wrap ((IntKind.i64.wrap ((IntKind.i64.wrap (a0.tdiv 86400)) - (mDaysOf y1 y3 1))) + 1)))) ++ (lit [32])) ++ (rx monthL (IntKind.i64.wrap (y3 - 1)))) ++ (lit [32])) ++ (mDec y1)) ++ (lit [32])) ++ (mL4Two ((IntKind.i64.wrap (a0.tdiv 3600)).tmod 24))) ++ (lit [58])) ++ (mL4Two ((IntKind.i64.wrap (a0.tdiv 60)).tmod 60))) ++ (lit [58])) ++ (mL4Two (a0.tmod 60))) ++ (lit [32, 71, 77, 84]))))) ∧
                                (¬ (y3 < 12) →
                                  pDaysOf y1 y3 1 ∧
                                  (7 : Int) ≠ 0 ∧
                                  0 ≤ ((IntKind.i64.wrap (a0.tdiv 86400)).tmod 7) ∧
                                  ((IntKind.i64.wrap (a0.tdiv 86400)).tmod 7) < (weekL.length : Int) ∧
                                  0 ≤ (IntKind.i64.wrap (y3 - 1)) ∧
                                  (IntKind.i64.wrap (y3 - 1)) < (monthL.length : Int) ∧
                                  (rx weekL ((IntKind.i64.wrap (a0.tdiv 86400)).tmod 7)).size + (lit [44, 32]).size ≤ 9223372036854775807 ∧
                                  pL4Two (IntKind.i64.wrap ((IntKind.i64.wrap ((IntKind.i64.wrap (a0.tdiv 86400)) - (mDaysOf y1 y3 1))) + 1)) ∧
                                  ((rx weekL ((IntKind.i64.wrap (a0.tdiv 86400)).tmod 7)) ++ (lit [44, 32])).size + (mL4Two (IntKind.i64.wrap ((IntKind.i64.wrap ((IntKind.i64.wrap (a0.tdiv 86400)) - (mDaysOf y1 y3 1))) + 1))).size ≤ 9223372036854775807 ∧
                                  (((rx weekL ((IntKind.i64.wrap (a0.tdiv 86400)).tmod 7)) ++ (lit [44, 32])) ++ (mL4Two (IntKind.i64.wrap ((IntKind.i64.wrap ((IntKind.i64.wrap (a0.tdiv 86400)) - (mDaysOf y1 y3 1))) + 1)))).size + (lit [32]).size ≤ 9223372036854775807 ∧
                                  ((((rx weekL ((IntKind.i64.wrap (a0.tdiv 86400)).tmod 7)) ++ (lit [44, 32])) ++ (mL4Two (IntKind.i64.wrap ((IntKind.i64.wrap ((IntKind.i64.wrap (a0.tdiv 86400)) - (mDaysOf y1 y3 1))) + 1)))) ++ (lit [32])).size + (rx monthL (IntKind.i64.wrap (y3 - 1))).size ≤ 9223372036854775807 ∧
                                  (((((rx weekL ((IntKind.i64.wrap (a0.tdiv 86400)).tmod 7)) ++ (lit [44, 32])) ++ (mL4Two (IntKind.i64.wrap ((IntKind.i64.wrap ((IntKind.i64.wrap (a0.tdiv 86400)) - (mDaysOf y1 y3 1))) + 1)))) ++ (lit [32])) ++ (rx monthL (IntKind.i64.wrap (y3 - 1)))).size + (lit [32]).size ≤ 9223372036854775807 ∧
                                  pDec y1 ∧
                                  ((((((rx weekL ((IntKind.i64.wrap (a0.tdiv 86400)).tmod 7)) ++ (lit [44, 32])) ++ (mL4Two (IntKind.i64.wrap ((IntKind.i64.wrap ((IntKind.i64.wrap (a0.tdiv 86400)) - (mDaysOf y1 y3 1))) + 1)))) ++ (lit [32])) ++ (rx monthL (IntKind.i64.wrap (y3 - 1)))) ++ (lit [32])).size + (mDec y1).size ≤ 9223372036854775807 ∧
                                  (((((((rx weekL ((IntKind.i64.wrap (a0.tdiv 86400)).tmod 7)) ++ (lit [44, 32])) ++ (mL4Two (IntKind.i64.wrap ((IntKind.i64.wrap ((IntKind.i64.wrap (a0.tdiv 86400)) - (mDaysOf y1 y3 1))) + 1)))) ++ (lit [32])) ++ (rx monthL (IntKind.i64.wrap (y3 - 1)))) ++ (lit [32])) ++ (mDec y1)).size + (lit [32]).size ≤ 9223372036854775807 ∧
                                  (3600 : Int) ≠ 0 ∧
                                  (24 : Int) ≠ 0 ∧
                                  pL4Two ((IntKind.i64.wrap (a0.tdiv 3600)).tmod 24) ∧
                                  ((((((((rx weekL ((IntKind.i64.wrap (a0.tdiv 86400)).tmod 7)) ++ (lit [44, 32])) ++ (mL4Two (IntKind.i64.wrap ((IntKind.i64.wrap ((IntKind.i64.wrap (a0.tdiv 86400)) - (mDaysOf y1 y3 1))) + 1)))) ++ (lit [32])) ++ (rx monthL (IntKind.i64.wrap (y3 - 1)))) ++ (lit [32])) ++ (mDec y1)) ++ (lit [32])).size + (mL4Two ((IntKind.i64.wrap (a0.tdiv 3600)).tmod 24)).size ≤ 9223372036854775807 ∧
                                  (((((((((rx weekL ((IntKind.i64.wrap (a0.tdiv 86400)).tmod 7)) ++ (lit [44, 32])) ++ (mL4Two (IntKind.i64.wrap ((IntKind.i64.wrap ((IntKind.i64.wrap (a0.tdiv 86400)) - (mDaysOf y1 y3 1))) + 1)))) ++ (lit [32])) ++ (rx monthL (IntKind.i64.wrap (y3 - 1)))) ++ (lit [32])) ++ (mDec y1)) ++ (lit [32])) ++ (mL4Two ((IntKind.i64.wrap (a0.tdiv 3600)).tmod 24))).size + (lit [58]).size ≤ 9223372036854775807 ∧
                                  (60 : Int) ≠ 0 ∧
                                  (60 : Int) ≠ 0 ∧
                                  pL4Two ((IntKind.i64.wrap (a0.tdiv 60)).tmod 60) ∧
                                  ((((((((((rx weekL ((IntKind.i64.wrap (a0.tdiv 86400)).tmod 7)) ++ (lit [44, 32])) ++ (mL4Two (IntKind.i64.wrap ((IntKind.i64.wrap ((IntKind.i64.wrap (a0.tdiv 86400)) - (mDaysOf y1 y3 1))) + 1)))) ++ (lit [32])) ++ (rx monthL (IntKind.i64.wrap (y3 - 1)))) ++ (lit [32])) ++ (mDec y1)) ++ (lit [32])) ++ (mL4Two ((IntKind.i64.wrap (a0.tdiv 3600)).tmod 24))) ++ (lit [58])).size + (mL4Two ((IntKind.i64.wrap (a0.tdiv 60)).tmod 60)).size ≤ 9223372036854775807 ∧
                                  (((((((((((rx weekL ((IntKind.i64.wrap (a0.tdiv 86400)).tmod 7)) ++ (lit [44, 32])) ++ (mL4Two (IntKind.i64.wrap ((IntKind.i64.wrap ((IntKind.i64.wrap (a0.tdiv 86400)) - (mDaysOf y1 y3 1))) + 1)))) ++ (lit [32])) ++ (rx monthL (IntKind.i64.wrap (y3 - 1)))) ++ (lit [32])) ++ (mDec y1)) ++ (lit [32])) ++ (mL4Two ((IntKind.i64.wrap (a0.tdiv 3600)).tmod 24))) ++ (lit [58])) ++ (mL4Two ((IntKind.i64.wrap (a0.tdiv 60)).tmod 60))).size + (lit [58]).size ≤ 9223372036854775807 ∧
                                  (60 : Int) ≠ 0 ∧
                                  pL4Two (a0.tmod 60) ∧
                                  ((((((((((((rx weekL ((IntKind.i64.wrap (a0.tdiv 86400)).tmod 7)) ++ (lit [44, 32])) ++ (mL4Two (IntKind.i64.wrap ((IntKind.i64.wrap ((IntKind.i64.wrap (a0.tdiv 86400)) - (mDaysOf y1 y3 1))) + 1)))) ++ (lit [32])) ++ (rx monthL (IntKind.i64.wrap (y3 - 1)))) ++ (lit [32])) ++ (mDec y1)) ++ (lit [32])) ++ (mL4Two ((IntKind.i64.wrap (a0.tdiv 3600)).tmod 24))) ++ (lit [58])) ++ (mL4Two ((IntKind.i64.wrap (a0.tdiv 60)).tmod 60))) ++ (lit [58])).size + (mL4Two (a0.tmod 60)).size ≤ 9223372036854775807 ∧
                                  (((((((((((((rx weekL ((IntKind.i64.wrap (a0.tdiv 86400)).tmod 7)) ++ (lit [44, 32])) ++ (mL4Two (IntKind.i64.wrap ((IntKind.i64.wrap ((IntKind.i64.wrap (a0.tdiv 86400)) - (mDaysOf y1 y3 1))) + 1)))) ++ (lit [32])) ++ (rx monthL (IntKind.i64.wrap (y3 - 1)))) ++ (lit [32])) ++ (mDec y1)) ++ (lit [32])) ++ (mL4Two ((IntKind.i64.wrap (a0.tdiv 3600)).tmod 24))) ++ (lit [58])) ++ (mL4Two ((IntKind.i64.wrap (a0.tdiv 60)).tmod 60))) ++ (lit [58])) ++ (mL4Two (a0.tmod 60))).size + (lit [32, 71, 77, 84]).size ≤ 9223372036854775807 ∧
                                  (Q ((((((((((((((rx weekL ((IntKind.i64.wrap (a0.tdiv 86400)).tmod 7)) ++ (lit [44, 32])) ++ (mL4Two (IntKind.i64.wrap ((IntKind.i64.wrap ((IntKind.i64.wrap (a0.tdiv 86400)) - (mDaysOf y1 y3 1))) + 1)))) ++ (lit [32])) ++ (rx monthL (IntKind.i64.wrap (y3 - 1)))) ++ (lit [32])) ++ (mDec y1)) ++ (lit [32])) ++ (mL4Two ((IntKind.i64.wrap (a0.tdiv 3600)).tmod 24))) ++ (lit [58])) ++ (mL4Two ((IntKind.i64.wrap (a0.tdiv 60)).tmod 60))) ++ (lit [58])) ++ (mL4Two (a0.tmod 60))) ++ (lit [32, 71, 77, 84]))))
                              ) →
                              (L2 y3)))
                        ) →
                        (L2 1))))) ∧
                (¬ (y1 < 2037) →
                  (∀ L4 : (Int → Prop),
                    ((
                        (∀ y5 : Int,
                          ((
                              (y5 < 12 →
                                pDaysOf y1 (IntKind.i64.wrap (y5 + 1)) 1 ∧
                                ((mDaysOf y1 (IntKind.i64.wrap (y5 + 1)) 1) ≤ (IntKind.i64.wrap (a0.tdiv 86400)) →
                                  (L4 (IntKind.i64.wrap (y5 + 1)))) ∧
                                (¬ ((mDaysOf y1 (IntKind.i64.wrap (y5 + 1)) 1) ≤ (IntKind.i64.wrap (a0.tdiv 86400))) →
                                  pDaysOf y1 y5 1 ∧
                                  (7 : Int) ≠ 0 ∧
                                  0 ≤ ((IntKind.i64.wrap (a0.tdiv 86400)).tmod 7) ∧
                                  ((IntKind.i64.wrap (a0.tdiv 86400)).tmod 7) < (weekL.length : Int) ∧
                                  0 ≤ (IntKind.i64.wrap (y5 - 1)) ∧
                                  (IntKind.i64.wrap (y5 - 1)) < (monthL.length : Int) ∧
                                  (rx weekL ((IntKind.i64.wrap (a0.tdiv 86400)).tmod 7)).size + (lit [44, 32]).size ≤ 9223372036854775807 ∧
                                  pL4Two (IntKind.i64.wrap ((IntKind.i64.wrap ((IntKind.i64.wrap (a0.tdiv 86400)) - (mDaysOf y1 y5 1))) + 1)) ∧
                                  ((rx weekL ((IntKind.i64.wrap (a0.tdiv 86400)).tmod 7)) ++ (lit [44, 32])).size + (mL4Two (IntKind.i64.wrap ((IntKind.i64.wrap ((IntKind.i64.wrap (a0.tdiv 86400)) - (mDaysOf y1 y5 1))) + 1))).size ≤ 9223372036854775807 ∧
                                  (((rx weekL ((IntKind.i64.wrap (a0.tdiv 86400)).tmod 7)) ++ (lit [44, 32])) ++ (mL4Two (IntKind.i64.wrap ((IntKind.i64.wrap ((IntKind.i64.wrap (a0.tdiv 86400)) - (mDaysOf y1 y5 1))) + 1)))).size + (lit [32]).size ≤ 9223372036854775807 ∧
                                  ((((rx weekL ((IntKind.i64.wrap (a0.tdiv 86400)).tmod 7)) ++ (lit [44, 32])) ++ (mL4Two (IntKind.i64.wrap ((IntKind.i64.wrap ((IntKind.i64.wrap (a0.tdiv 86400)) - (mDaysOf y1 y5 1))) + 1)))) ++ (lit [32])).size + (rx monthL (IntKind.i64.wrap (y5 - 1))).size ≤ 9223372036854775807 ∧
                                  (((((rx weekL ((IntKind.i64.wrap (a0.tdiv 86400)).tmod 7)) ++ (lit [44, 32])) ++ (mL4Two (IntKind.i64.wrap ((IntKind.i64.wrap ((IntKind.i64.wrap (a0.tdiv 86400)) - (mDaysOf y1 y5 1))) + 1)))) ++ (lit [32])) ++ (rx monthL (IntKind.i64.wrap (y5 - 1)))).size + (lit [32]).size ≤ 9223372036854775807 ∧
                                  pDec y1 ∧
                                  ((((((rx weekL ((IntKind.i64.wrap (a0.tdiv 86400)).tmod 7)) ++ (lit [44, 32])) ++ (mL4Two (IntKind.i64.wrap ((IntKind.i64.wrap ((IntKind.i64.wrap (a0.tdiv 86400)) - (mDaysOf y1 y5 1))) + 1)))) ++ (lit [32])) ++ (rx monthL (IntKind.i64.wrap (y5 - 1)))) ++ (lit [32])).size + (mDec y1).size ≤ 9223372036854775807 ∧
                                  (((((((rx weekL ((IntKind.i64.wrap (a0.tdiv 86400)).tmod 7)) ++ (lit [44, 32])) ++ (mL4Two (IntKind.i64.wrap ((IntKind.i64.wrap ((IntKind.i64.wrap (a0.tdiv 86400)) - (mDaysOf y1 y5 1))) + 1)))) ++ (lit [32])) ++ (rx monthL (IntKind.i64.wrap (y5 - 1)))) ++ (lit [32])) ++ (mDec y1)).size + (lit [32]).size ≤ 9223372036854775807 ∧
                                  (3600 : Int) ≠ 0 ∧
                                  (24 : Int) ≠ 0 ∧
                                  pL4Two ((IntKind.i64.wrap (a0.tdiv 3600)).tmod 24) ∧
                                  ((((((((rx weekL ((IntKind.i64.wrap (a0.tdiv 86400)).tmod 7)) ++ (lit [44, 32])) ++ (mL4Two (IntKind.i64.wrap ((IntKind.i64.wrap ((IntKind.i64.wrap (a0.tdiv 86400)) - (mDaysOf y1 y5 1))) + 1)))) ++ (lit [32])) ++ (rx monthL (IntKind.i64.wrap (y5 - 1)))) ++ (lit [32])) ++ (mDec y1)) ++ (lit [32])).size + (mL4Two ((IntKind.i64.wrap (a0.tdiv 3600)).tmod 24)).size ≤ 9223372036854775807 ∧
                                  (((((((((rx weekL ((IntKind.i64.wrap (a0.tdiv 86400)).tmod 7)) ++ (lit [44, 32])) ++ (mL4Two (IntKind.i64.wrap ((IntKind.i64.wrap ((IntKind.i64.wrap (a0.tdiv 86400)) - (mDaysOf y1 y5 1))) + 1)))) ++ (lit [32])) ++ (rx monthL (IntKind.i64.wrap (y5 - 1)))) ++ (lit [32])) ++ (mDec y1)) ++ (lit [32])) ++ (mL4Two ((IntKind.i64.wrap (a0.tdiv 3600)).tmod 24))).size + (lit [58]).size ≤ 9223372036854775807 ∧
                                  (60 : Int) ≠ 0 ∧
                                  (60 : Int) ≠ 0 ∧
                                  pL4Two ((IntKind.i64.wrap (a0.tdiv 60)).tmod 60) ∧
                                  ((((((((((rx weekL ((IntKind.i64.wrap (a0.tdiv 86400)).tmod 7)) ++ (lit [44, 32])) ++ (mL4Two (IntKind.i64.wrap ((IntKind.i64.wrap ((IntKind.i64.wrap (a0.tdiv 86400)) - (mDaysOf y1 y5 1))) + 1)))) ++ (lit [32])) ++ (rx monthL (IntKind.i64.wrap (y5 - 1)))) ++ (lit [32])) ++ (mDec y1)) ++ (lit [32])) ++ (mL4Two ((IntKind.i64.wrap (a0.tdiv 3600)).tmod 24))) ++ (lit [58])).size + (mL4Two ((IntKind.i64.wrap (a0.tdiv 60)).tmod 60)).size ≤ 9223372036854775807 ∧
                                  (((((((((((rx weekL ((IntKind.i64.wrap (a0.tdiv 86400)).tmod 7)) ++ (lit [44, 32])) ++ (mL4Two (IntKind.i64.wrap ((IntKind.i64.wrap ((IntKind.i64.wrap (a0.tdiv 86400)) - (mDaysOf y1 y5 1))) + 1)))) ++ (lit [32])) ++ (rx monthL (IntKind.i64.wrap (y5 - 1)))) ++ (lit [32])) ++ (mDec y1)) ++ (lit [32])) ++ (mL4Two ((IntKind.i64.wrap (a0.tdiv 3600)).tmod 24))) ++ (lit [58])) ++ (mL4Two ((IntKind.i64.wrap (a0.tdiv 60)).tmod 60))).size + (lit [58]).size ≤ 9223372036854775807 ∧
                                  (60 : Int) ≠ 0 ∧
                                  pL4Two (a0.tmod 60) ∧
                                  ((((((((((((rx weekL ((IntKind.i64.wrap (a0.tdiv 86400)).tmod 7)) ++ (lit [44, 32])) ++ (mL4Two (IntKind.i64.wrap ((IntKind.i64.wrap ((IntKind.i64.wrap (a0.tdiv 86400)) - (mDaysOf y1 y5 1))) + 1)))) ++ (lit [32])) ++ (rx monthL (IntKind.i64.wrap (y5 - 1)))) ++ (lit [32])) ++ (mDec y1)) ++ (lit [32])) ++ (mL4Two ((IntKind.i64.wrap (a0.tdiv 3600)).tmod 24))) ++ (lit [58])) ++ (mL4Two ((IntKind.i64.wrap (a0.tdiv 60)).tmod 60))) ++ (lit [58])).size + (mL4Two (a0.tmod 60)).size ≤ 9223372036854775807 ∧
                                  (((((((((((((rx weekL ((IntKind.i64.wrap (a0.tdiv 86400)).tmod 7)) ++ (lit [44, 32])) ++ (mL4Two (IntKind.i64.wrap ((IntKind.i64.wrap ((IntKind.i64.wrap (a0.tdiv 86400)) - (mDaysOf y1 y5 1))) + 1)))) ++ (lit [32])) ++ (rx monthL (IntKind.i64.wrap (y5 - 1)))) ++ (lit [32])) ++ (mDec y1)) ++ (lit [32])) ++ (mL4Two ((IntKind.i64.wrap (a0.tdiv 3600)).tmod 24))) ++ (lit [58])) ++ (mL4Two ((IntKind.i64.wrap (a0.tdiv 60)).tmod 60))) ++ (lit [58])) ++ (mL4Two (a0.tmod 60))).size + (lit [32, 71, 77, 84]).size ≤ 9223372036854775807 ∧
                                  (Q ((((((((((((((rx weekL ((IntKind.i64.wrap (a0.tdiv 86400)).tmod 7)) ++ (lit [44, 32])) ++ (mL4Two (IntKind.i64.wrap ((IntKind.i64.wrap ((IntKind.i64.wrap (a0.tdiv 86400)) - (mDaysOf y1 y5 1))) + 1)))) ++ (lit [32])) ++ (rx monthL (IntKind.i64.wrap (y5 - 1)))) ++ (lit [32])) ++ (mDec y1)) ++ (lit [32])) ++ (mL4Two ((IntKind.i64.wrap (a0.tdiv 3600)).tmod 24))) ++ (lit [58])) ++ (mL4Two ((IntKind.i64.wrap (a0.tdiv 60)).tmod 60))) ++ (lit [58])) ++ (mL4Two (a0.tmod 60))) ++ (lit [32, 71, 77, 84]))))) ∧
                              (¬ (y5 < 12) →
                                pDaysOf y1 y5 1 ∧
                                (7 : Int) ≠ 0 ∧
                                0 ≤ ((IntKind.i64.wrap (a0.tdiv 86400)).tmod 7) ∧
                                ((IntKind.i64.wrap (a0.tdiv 86400)).tmod 7) < (weekL.length : Int) ∧
                                0 ≤ (IntKind.i64.wrap (y5 - 1)) ∧
                                (IntKind.i64.wrap (y5 - 1)) < (monthL.length : Int) ∧
                                (rx weekL ((IntKind.i64.wrap (a0.tdiv 86400)).tmod 7)).size + (lit [44, 32]).size ≤ 9223372036854775807 ∧
                                pL4Two (IntKind.i64.wrap ((IntKind.i64.wrap ((IntKind.i64.wrap (a0.tdiv 86400)) - (mDaysOf y1 y5 1))) + 1)) ∧
                                ((rx weekL ((IntKind.i64.wrap (a0.tdiv 86400)).tmod 7)) ++ (lit [44, 32])).size + (mL4Two (IntKind.i64.wrap ((IntKind.i64.wrap ((IntKind.i64.wrap (a0.tdiv 86400)) - (mDaysOf y1 y5 1))) + 1))).size ≤ 9223372036854775807 ∧
                                (((rx weekL ((IntKind.i64.wrap (a0.tdiv 86400)).tmod 7)) ++ (lit [44, 32])) ++ (mL4Two (IntKind.i64.wrap ((IntKind.i64.wrap ((IntKind.i64.wrap (a0.tdiv 86400)) - (mDaysOf y1 y5 1))) + 1)))).size + (lit [32]).size ≤ 9223372036854775807 ∧
                                ((((rx weekL ((IntKind.i64.wrap (a0.tdiv 86400)).tmod 7)) ++ (lit [44, 32])) ++ (mL4Two (IntKind.i64.wrap ((IntKind.i64.wrap ((IntKind.i64.wrap (a0.tdiv 86400)) - (mDaysOf y1 y5 1))) + 1)))) ++ (lit [32])).size + (rx monthL (IntKind.i64.wrap (y5 - 1))).size ≤ 9223372036854775807 ∧
                                (((((rx weekL ((IntKind.i64.wrap (a0.tdiv 86400)).tmod 7)) ++ (lit [44, 32])) ++ (mL4Two (IntKind.i64.wrap ((IntKind.i64.wrap ((IntKind.i64.wrap (a0.tdiv 86400)) - (mDaysOf y1 y5 1))) + 1)))) ++ (lit [32])) ++ (rx monthL (IntKind.i64.wrap (y5 - 1)))).size + (lit [32]).size ≤ 9223372036854775807 ∧
                                pDec y1 ∧
                                ((((((rx weekL ((IntKind.i64.wrap (a0.tdiv 86400)).tmod 7)) ++ (lit [44, 32])) ++ (mL4Two (IntKind.i64.wrap ((IntKind.i64.wrap ((IntKind.i64.wrap (a0.tdiv 86400)) - (mDaysOf y1 y5 1))) + 1)))) ++ (lit [32])) ++ (rx monthL (IntKind.i64.wrap (y5 - 1)))) ++ (lit [32])).size + (mDec y1).size ≤ 9223372036854775807 ∧
                                (((((((rx weekL ((IntKind.i64.wrap (a0.tdiv 86400)).tmod 7)) ++ (lit [44, 32])) ++ (mL4Two (IntKind.i64.wrap ((IntKind.i64.wrap ((IntKind.i64.wrap (a0.tdiv 86400)) - (mDaysOf y1 y5 1))) + 1)))) ++ (lit [32])) ++ (rx monthL (IntKind.i64.wrap (y5 - 1)))) ++ (lit [32])) ++ (mDec y1)).size + (lit [32]).size ≤ 9223372036854775807 ∧
                                (3600 : Int) ≠ 0 ∧
                                (24 : Int) ≠ 0 ∧
                                pL4Two ((IntKind.i64.wrap (a0.tdiv 3600)).tmod 24) ∧
                                ((((((((rx weekL ((IntKind.i64.wrap (a0.tdiv 86400)).tmod 7)) ++ (lit [44, 32])) ++ (mL4Two (IntKind.i64.wrap ((IntKind.i64.wrap ((IntKind.i64.wrap (a0.tdiv 86400)) - (mDaysOf y1 y5 1))) + 1)))) ++ (lit [32])) ++ (rx monthL (IntKind.i64.wrap (y5 - 1)))) ++ (lit [32])) ++ (mDec y1)) ++ (lit [32])).size + (mL4Two ((IntKind.i64.wrap (a0.tdiv 3600)).tmod 24)).size ≤ 9223372036854775807 ∧
                                (((((((((rx weekL ((IntKind.i64.wrap (a0.tdiv 86400)).tmod 7)) ++ (lit [44, 32])) ++ (mL4Two (IntKind.i64.wrap ((IntKind.i64.wrap ((IntKind.i64.wrap (a0.tdiv 86400)) - (mDaysOf y1 y5 1))) + 1)))) ++ (lit [32])) ++ (rx monthL (IntKind.i64.wrap (y5 - 1)))) ++ (lit [32])) ++ (mDec y1)) ++ (lit [32])) ++ (mL4Two ((IntKind.i64.wrap (a0.tdiv 3600)).tmod 24))).size + (lit [58]).size ≤ 9223372036854775807 ∧
                                (60 : Int) ≠ 0 ∧
                                (60 : Int) ≠ 0 ∧
                                pL4Two ((IntKind.i64.wrap (a0.tdiv 60)).tmod 60) ∧
                                ((((((((((rx weekL ((IntKind.i64.wrap (a0.tdiv 86400)).tmod 7)) ++ (lit [44, 32])) ++ (mL4Two (IntKind.i64.wrap ((IntKind.i64.wrap ((IntKind.i64.wrap (a0.tdiv 86400)) - (mDaysOf y1 y5 1))) + 1)))) ++ (lit [32])) ++ (rx monthL (IntKind.i64.wrap (y5 - 1)))) ++ (lit [32])) ++ (mDec y1)) ++ (lit [32])) ++ (mL4Two ((IntKind.i64.wrap (a0.tdiv 3600)).tmod 24))) ++ (lit [58])).size + (mL4Two ((IntKind.i64.wrap (a0.tdiv 60)).tmod 60)).size ≤ 9223372036854775807 ∧
                                (((((((((((rx weekL ((IntKind.i64.wrap (a0.tdiv 86400)).tmod 7)) ++ (lit [44, 32])) ++ (mL4Two (IntKind.i64.wrap ((IntKind.i64.wrap ((IntKind.i64.wrap (a0.tdiv 86400)) - (mDaysOf y1 y5 1))) + 1)))) ++ (lit [32])) ++ (rx monthL (IntKind.i64.wrap (y5 - 1)))) ++ (lit [32])) ++ (mDec y1)) ++ (lit [32])) ++ (mL4Two ((IntKind.i64.wrap (a0.tdiv 3600)).tmod 24))) ++ (lit [58])) ++ (mL4Two ((IntKind.i64.wrap (a0.tdiv 60)).tmod 60))).size + (lit [58]).size ≤ 9223372036854775807 ∧
                                (60 : Int) ≠ 0 ∧
                                pL4Two (a0.tmod 60) ∧
                                ((((((((((((rx weekL ((IntKind.i64.wrap (a0.tdiv 86400)).tmod 7)) ++ (lit [44, 32])) ++ (mL4Two (IntKind.i64.wrap ((IntKind.i64.wrap ((IntKind.i64.wrap (a0.tdiv 86400)) - (mDaysOf y1 y5 1))) + 1)))) ++ (lit [32])) ++ (rx monthL (IntKind.i64.wrap (y5 - 1)))) ++ (lit [32])) ++ (mDec y1)) ++ (lit [32])) ++ (mL4Two ((IntKind.i64.wrap (a0.tdiv 3600)).tmod 24))) ++ (lit [58])) ++ (mL4Two ((IntKind.i64.wrap (a0.tdiv 60)).tmod 60))) ++ (lit [58])).size + (mL4Two (a0.tmod 60)).size ≤ 9223372036854775807 ∧
                                (((((((((((((rx weekL ((IntKind.i64.wrap (a0.tdiv 86400)).tmod 7)) ++ (lit [44, 32])) ++ (mL4Two (IntKind.i64.wrap ((IntKind.i64.wrap ((IntKind.i64.wrap (a0.tdiv 86400)) - (mDaysOf y1 y5 1))) + 1)))) ++ (lit [32])) ++ (rx monthL (IntKind.i64.wrap (y5 - 1)))) ++ (lit [32])) ++ (mDec y1)) ++ (lit [32])) ++ (mL4Two ((IntKind.i64.wrap (a0.tdiv 3600)).tmod 24))) ++ (lit [58])) ++ (mL4Two ((IntKind.i64.wrap (a0.tdiv 60)).tmod 60))) ++ (lit [58])) ++ (mL4Two (a0.tmod 60))).size + (lit [32, 71, 77, 84]).size ≤ 9223372036854775807 ∧
                                (Q ((((((((((((((rx weekL ((IntKind.i64.wrap (a0.tdiv 86400)).tmod 7)) ++ (lit [44, 32])) ++ (mL4Two (IntKind.i64.wrap ((IntKind.i64.wrap ((IntKind.i64.wrap (a0.tdiv 86400)) - (mDaysOf y1 y5 1))) + 1)))) ++ (lit [32])) ++ (rx monthL (IntKind.i64.wrap (y5 - 1)))) ++ (lit [32])) ++ (mDec y1)) ++ (lit [32])) ++ (mL4Two ((IntKind.i64.wrap (a0.tdiv 3600)).tmod 24))) ++ (lit [58])) ++ (mL4Two ((IntKind.i64.wrap (a0.tdiv 60)).tmod 60))) ++ (lit [58])) ++ (mL4Two (a0.tmod 60))) ++ (lit [32, 71, 77, 84]))))
                            ) →
                            (L4 y5)))
                      ) →
                      (L4 1))))
              ) →
              (L0 y1)))
        ) →
        (L0 1970))))

def s_spec_l4Months (a0 : Int) (Q : ((List Int) → Prop)) : Prop :=
  pIsLeap a0 ∧
  ((mIsLeap a0) = true →
    (Q [31, 29, 31, 30, 31, 30, 31, 31, 30, 31, 30, 31])) ∧
  (¬ ((mIsLeap a0) = true) →
    (Q [31, 28, 31, 30, 31, 30, 31, 31, 30, 31, 30, 31]))

def s_spec_l4Two (a0 : Int) (Q : (S → Prop)) : Prop :=
  (10 : Int) ≠ 0 ∧
  (10 : Int) ≠ 0 ∧
  (10 : Int) ≠ 0 ∧
  (Q (strOf [(IntKind.u8.wrap (IntKind.i64.wrap (48 + ((IntKind.i64.wrap (a0.tdiv 10)).tmod 10)))), (IntKind.u8.wrap (IntKind.i64.wrap (48 + (a0.tmod 10))))]))

end Go.Ev
end

section
/- Laws of the plain library: the calendar. -/
set_option linter.unusedVariables false
namespace Go.Ev
theorem tmodI {n k : Int} (h : 0 ≤ n) : n.tmod k = n % k := Int.tmod_eq_emod_of_nonneg h
theorem tdivI {n k : Int} (h : 0 ≤ n) : n.tdiv k = n / k := Int.tdiv_eq_ediv_of_nonneg h
def monthsB (b : Bool) : List Int := if b = true then [31, 29, 31, 30, 31, 30, 31, 31, 30, 31, 30, 31] else [31, 28, 31, 30, 31, 30, 31, 31, 30, 31, 30, 31]
theorem monthDays_tab : ∀ (b : Bool) (m : Fin 12), 28 ≤ rx (monthsB b) ((m.val : Nat) : Int) ∧ rx (monthsB b) ((m.val : Nat) : Int) ≤ 31 := by decide +kernel
theorem monthDays_range (y : Int) {m : Int} (h1 : 1 ≤ m) (h2 : m ≤ 12) : 28 ≤ mMonthDays y m ∧ mMonthDays y m ≤ 31 := by
  have := monthDays_tab (mIsLeap y) ⟨(m - 1).toNat, by omega⟩
  simp only at this
  rw [show (((m - 1).toNat : Nat) : Int) = m - 1 by omega] at this
  exact this
theorem yearDays_range (y : Int) : 365 ≤ mYearDays y ∧ mYearDays y ≤ 366 := by
  unfold mYearDays
  split <;> omega
theorem months_len (y : Int) : (mL4Months y).length = 12 := by unfold mL4Months; split <;> rfl
theorem daysM_tab : ∀ b : Bool, 0 + rx (monthsB b) 0 + rx (monthsB b) 1 + rx (monthsB b) 2 + rx (monthsB b) 3 + rx (monthsB b) 4 + rx (monthsB b) 5 + rx (monthsB b) 6 + rx (monthsB b) 7 + rx (monthsB b) 8 + rx (monthsB b) 9 + rx (monthsB b) 10 + rx (monthsB b) 11 = if b = true then 366 else 365 := by decide +kernel
theorem daysM_year (y : Int) : daysM y 12 = mYearDays y := daysM_tab (mIsLeap y)
theorem daysM_range (y : Int) : ∀ j : Nat, j ≤ 12 → 28 * (j : Int) ≤ daysM y j ∧ daysM y j ≤ 31 * j
  | 0, _ => by simp [daysM]
  | j + 1, h => by
    have h1 := daysM_range y j (by omega)
    have h2 := monthDays_range y (m := (j : Int) + 1) (by omega) (by omega)
    simp only [daysM]
    omega
theorem daysM_mono (y : Int) : ∀ {j k : Nat}, j ≤ k → k ≤ 12 → daysM y j ≤ daysM y k
  | j, 0, h, _ => by have : j = 0 := by omega
                     subst this; exact Int.le_refl _
  | j, k + 1, h, hk => by
    by_cases e : j = k + 1
    · subst e; exact Int.le_refl _
    · have h1 := daysM_mono y (j := j) (k := k) (by omega) (by omega)
      have h2 := monthDays_range y (m := (k : Int) + 1) (by omega) (by omega)
      simp only [daysM]
      omega
theorem daysY_range : ∀ k : Nat, 365 * (k : Int) ≤ daysY k ∧ daysY k ≤ 366 * k
  | 0 => by simp [daysY]
  | k + 1 => by
    have h1 := daysY_range k
    have h2 := yearDays_range (1970 + (k : Int))
    simp only [daysY]
    omega
theorem daysY_mono : ∀ {j k : Nat}, j ≤ k → daysY j ≤ daysY k
  | j, 0, h => by have : j = 0 := by omega
                  subst this; exact Int.le_refl _
  | j, k + 1, h => by
    by_cases e : j = k + 1
    · subst e; exact Int.le_refl _
    · have h1 := daysY_mono (j := j) (k := k) (by omega)
      have h2 := yearDays_range (1970 + (k : Int))
      simp only [daysY]
      omega
theorem civil_year {n : Int} {k j : Nat} (h : civil n k j) : daysY k ≤ n ∧ n < daysY (k + 1) := by
  obtain ⟨h1, h2, h3, h4⟩ := h
  have h5 := daysM_range (1970 + (k : Int)) j (by omega)
  have h6 := daysM_mono (1970 + (k : Int)) (j := j + 1) (k := 12) (by omega) (by omega)
  rw [daysM_year] at h6
  simp only [daysY]
  omega
theorem civil_uniq {n : Int} {k j k' j' : Nat} (h : civil n k j) (h' : civil n k' j') : k = k' ∧ j = j' := by
  have a := civil_year h
  have b := civil_year h'
  have e : k = k' := by
    rcases Nat.lt_trichotomy k k' with hl | hl | hl
    · have := daysY_mono (j := k + 1) (k := k') hl; omega
    · exact hl
    · have := daysY_mono (j := k' + 1) (k := k) hl; omega
  subst e
  refine ⟨rfl, ?_⟩
  obtain ⟨h1, h2, h3, h4⟩ := h
  obtain ⟨g1, g2, g3, g4⟩ := h'
  rcases Nat.lt_trichotomy j j' with hl | hl | hl
  · have := daysM_mono (1970 + (k : Int)) (j := j + 1) (k := j') hl (by omega); omega
  · exact hl
  · have := daysM_mono (1970 + (k : Int)) (j := j' + 1) (k := j) hl (by omega); omega
theorem showDate_at {a : Int} {k j : Nat} (h0 : 0 ≤ a) (h1 : a ≤ 2000000000) (h : civil (a / 86400) k j) : mShowDate a = showT a (1970 + (k : Int)) (j : Int) (a / 86400 - daysY k - daysM (1970 + (k : Int)) j + 1) := by
  have hx : 0 ≤ a ∧ a ≤ 2000000000 ∧ ∃ p : Nat × Nat, civil (a / 86400) p.1 p.2 := ⟨h0, h1, (k, j), h⟩
  unfold mShowDate
  rw [dif_pos hx]
  obtain ⟨e1, e2⟩ := civil_uniq (Classical.choose_spec hx.2.2) h
  rw [e1, e2]
theorem daysY_67 : daysY 64 = 23376 := by decide +kernel
theorem civil_ex {n : Int} (h0 : 0 ≤ n) (h1 : n < 23376) : ∃ k j, civil n k j ∧ k < 64 := by
  have yr : ∀ k : Nat, n < daysY k → ∃ i, i < k ∧ daysY i ≤ n ∧ n < daysY (i + 1) := fun k => by
    induction k with
    | zero => intro h; simp [daysY] at h; omega
    | succ k ih =>
      intro h
      by_cases hk : n < daysY k
      · obtain ⟨i, hi, h2⟩ := ih hk
        exact ⟨i, by omega, h2⟩
      · exact ⟨k, by omega, by omega, h⟩
  obtain ⟨k, hk, h2, h3⟩ := yr 64 (by rw [daysY_67]; exact h1)
  have mo : ∀ j : Nat, n < daysY k + daysM (1970 + (k : Int)) j → ∃ i, i < j ∧ daysY k + daysM (1970 + (k : Int)) i ≤ n ∧ n < daysY k + daysM (1970 + (k : Int)) (i + 1) := fun j => by
    induction j with
    | zero => intro h; simp [daysM] at h; omega
    | succ j ih =>
      intro h
      by_cases hj : n < daysY k + daysM (1970 + (k : Int)) j
      · obtain ⟨i, hi, h4⟩ := ih hj
        exact ⟨i, by omega, h4⟩
      · exact ⟨j, by omega, by omega, h⟩
  obtain ⟨j, hj, h4, h5⟩ := mo 12 (by rw [daysM_year]; simp only [daysY] at h3; omega)
  exact ⟨k, j, ⟨by omega, hj, h4, h5⟩, hk⟩
end Go.Ev
end

section
/- What the program's functions come to, each by itself: printed by a program of this session's own (EwShow) out of the small machine. -/
set_option linter.unusedVariables false
namespace Go.Ev

def s_ContainsFunc_CcHas_1 (a0 : (List Fld)) (a1 : S) (Q : (Bool → Prop)) : Prop :=
  pIndexFunc_CcHas_1 a0 a1 ∧
  (Q (decide (0 ≤ (mIndexFunc_CcHas_1 a0 a1))))

def s_IndexFunc_CcHas_1 (a0 : (List Fld)) (a1 : S) (Q : (Int → Prop)) : Prop :=
  (∀ L0 : (Int → Prop),
    ((
        (∀ y1 : Int,
          ((
              (y1 < (a0.length : Int) →
                0 ≤ y1 ∧
                y1 < (a0.length : Int) ∧
                pCcHas_1 (rx a0 y1) a1 ∧
                ((mCcHas_1 (rx a0 y1) a1) = true →
                  (Q y1)) ∧
                (¬ ((mCcHas_1 (rx a0 y1) a1) = true) →
                  (L0 (IntKind.i64.wrap (y1 + 1))))) ∧
              (¬ (y1 < (a0.length : Int)) →
                (Q (-1)))
            ) →
            (L0 y1)))
      ) →
      (L0 0)))

def s_impl_CcHas (a0 : (List Fld)) (a1 : S) (Q : (Bool → Prop)) : Prop :=
  pDirectives a0 ∧
  pContainsFunc_CcHas_1 (mDirectives a0) a1 ∧
  (Q (mContainsFunc_CcHas_1 (mDirectives a0) a1))

def s_impl_CcHas_1 (a0 : Fld) (a1 : S) (Q : (Bool → Prop)) : Prop :=
  (Q (decide (a0.1 = a1)))

def s_impl_Directives (a0 : (List Fld)) (Q : ((List Fld) → Prop)) : Prop :=
  pFieldGet a0 (lit [99, 97, 99, 104, 101, 45, 99, 111, 110, 116, 114, 111, 108]) ∧
  pSplitList (mFieldGet a0 (lit [99, 97, 99, 104, 101, 45, 99, 111, 110, 116, 114, 111, 108])).1 ∧
  (∀ L0 : (((List Fld) × Int) → Prop),
    ((
        (∀ y1 : ((List Fld) × Int),
          ((
              (y1.2 < ((mSplitList (mFieldGet a0 (lit [99, 97, 99, 104, 101, 45, 99, 111, 110, 116, 114, 111, 108])).1).length : Int) →
                0 ≤ y1.2 ∧
                y1.2 < ((mSplitList (mFieldGet a0 (lit [99, 97, 99, 104, 101, 45, 99, 111, 110, 116, 114, 111, 108])).1).length : Int) ∧
                pCut (rx (mSplitList (mFieldGet a0 (lit [99, 97, 99, 104, 101, 45, 99, 111, 110, 116, 114, 111, 108])).1) y1.2) (lit [61]) ∧
                pIsTokenText (mCut (rx (mSplitList (mFieldGet a0 (lit [99, 97, 99, 104, 101, 45, 99, 111, 110, 116, 114, 111, 108])).1) y1.2) (lit [61])).1 ∧
                (¬ ((mIsTokenText (mCut (rx (mSplitList (mFieldGet a0 (lit [99, 97, 99, 104, 101, 45, 99, 111, 110, 116, 114, 111, 108])).1) y1.2) (lit [61])).1) = true) →
                  (L0 (y1.1, (IntKind.i64.wrap (y1.2 + 1))))) ∧
                (¬ (¬ ((mIsTokenText (mCut (rx (mSplitList (mFieldGet a0 (lit [99, 97, 99, 104, 101, 45, 99, 111, 110, 116, 114, 111, 108])).1) y1.2) (lit [61])).1) = true)) →
                  (2 ≤ ((mCut (rx (mSplitList (mFieldGet a0 (lit [99, 97, 99, 104, 101, 45, 99, 111, 110, 116, 114, 111, 108])).1) y1.2) (lit [61])).2.1.size : Int) →
                    (0 : Int) ≤ 0 ∧
                    0 < ((mCut (rx (mSplitList (mFieldGet a0 (lit [99, 97, 99, 104, 101, 45, 99, 111, 110, 116, 114, 111, 108])).1) y1.2) (lit [61])).2.1.size : Int) ∧
                    ((bt (mCut (rx (mSplitList (mFieldGet a0 (lit [99, 97, 99, 104, 101, 45, 99, 111, 110, 116, 114, 111, 108])).1) y1.2) (lit [61])).2.1 0) = 34 →
                      0 ≤ (IntKind.i64.wrap (((mCut (rx (mSplitList (mFieldGet a0 (lit [99, 97, 99, 104, 101, 45, 99, 111, 110, 116, 114, 111, 108])).1) y1.2) (lit [61])).2.1.size : Int) - 1)) ∧
                      (IntKind.i64.wrap (((mCut (rx (mSplitList (mFieldGet a0 (lit [99, 97, 99, 104, 101, 45, 99, 111, 110, 116, 114, 111, 108])).1) y1.2) (lit [61])).2.1.size : Int) - 1)) < ((mCut (rx (mSplitList (mFieldGet a0 (lit [99, 97, 99, 104, 101, 45, 99, 111, 110, 116, 114, 111, 108])).1) y1.2) (lit [61])).2.1.size : Int) ∧
                      ((bt (mCut (rx (mSplitList (mFieldGet a0 (lit [99, 97, 99, 104, 101, 45, 99, 111, 110, 116, 114, 111, 108])).1) y1.2) (lit [61])).2.1 (IntKind.i64.wrap (((mCut (rx (mSplitList (mFieldGet a0 (lit [99, 97, 99, 104, 101, 45, 99, 111, 110, 116, 114, 111, 108])).1) y1.2) (lit [61])).2.1.size : Int) - 1))) = 34 →
                        (0 : Int) ≤ 1 ∧
                        1 ≤ (IntKind.i64.wrap (((mCut (rx (mSplitList (mFieldGet a0 (lit [99, 97, 99, 104, 101, 45, 99, 111, 110, 116, 114, 111, 108])).1) y1.2) (lit [61])).2.1.size : Int) - 1)) ∧
                        (IntKind.i64.wrap (((mCut (rx (mSplitList (mFieldGet a0 (lit [99, 97, 99, 104, 101, 45, 99, 111, 110, 116, 114, 111, 108])).1) y1.2) (lit [61])).2.1.size : Int) - 1)) ≤ ((mCut (rx (mSplitList (mFieldGet a0 (lit [99, 97, 99, 104, 101, 45, 99, 111, 110, 116, 114, 111, 108])).1) y1.2) (lit [61])).2.1.size : Int) ∧
                        pLower (mCut (rx (mSplitList (mFieldGet a0 (lit [99, 97, 99, 104, 101, 45, 99, 111, 110, 116, 114, 111, 108])).1) y1.2) (lit [61])).1 ∧
                        (y1.1.length + [((mLower (mCut (rx (mSplitList (mFieldGet a0 (lit [99, 97, 99, 104, 101, 45, 99, 111, 110, 116, 114, 111, 108])).1) y1.2) (lit [61])).1), ((mCut (rx (mSplitList (mFieldGet a0 (lit [99, 97, 99, 104, 101, 45, 99, 111, 110, 116, 114, 111, 108])).1) y1.2) (lit [61])).2.1.extract ((1 : Int).toNat) (IntKind.i64.wrap (((mCut (rx (mSplitList (mFieldGet a0 (lit [99, 97, 99, 104, 101, 45, 99, 111, 110, 116, 114, 111, 108])).1) y1.2) (lit [61])).2.1.size : Int) - 1)).toNat))].length) * 32 ≤ 140737488355328 ∧
                        (L0 ((y1.1 ++ [((mLower (mCut (rx (mSplitList (mFieldGet a0 (lit [99, 97, 99, 104, 101, 45, 99, 111, 110, 116, 114, 111, 108])).1) y1.2) (lit [61])).1), ((mCut (rx (mSplitList (mFieldGet a0 (lit [99, 97, 99, 104, 101, 45, 99, 111, 110, 116, 114, 111, 108])).1) y1.2) (lit [61])).2.1.extract ((1 : Int).toNat) (IntKind.i64.wrap (((mCut (rx (mSplitList (mFieldGet a0 (lit [99, 97, 99, 104, 101, 45, 99, 111, 110, 116, 114, 111, 108])).1) y1.2) (lit [61])).2.1.size : Int) - 1)).toNat))]), (IntKind.i64.wrap (y1.2 + 1))))) ∧
                      (¬ ((bt (mCut (rx (mSplitList (mFieldGet a0 (lit [99, 97, 99, 104, 101, 45, 99, 111, 110, 116, 114, 111, 108])).1) y1.2) (lit [61])).2.1 (IntKind.i64.wrap (((mCut (rx (mSplitList (mFieldGet a0 (lit [99, 97, 99, 104, 101, 45, 99, 111, 110, 116, 114, 111, 108])).1) y1.2) (lit [61])).2.1.size : Int) - 1))) = 34) →
                        pLower (mCut (rx (mSplitList (mFieldGet a0 (lit [99, 97, 99, 104, 101, 45, 99, 111, 110, 116, 114, 111, 108])).1) y1.2) (lit [61])).1 ∧
                        (y1.1.length + [((mLower (mCut (rx (mSplitList (mFieldGet a0 (lit [99, 97, 99, 104, 101, 45, 99, 111, 110, 116, 114, 111, 108])).1) y1.2) (lit [61])).1), (mCut (rx (mSplitList (mFieldGet a0 (lit [99, 97, 99, 104, 101, 45, 99, 111, 110, 116, 114, 111, 108])).1) y1.2) (lit [61])).2.1)].length) * 32 ≤ 140737488355328 ∧
                        (L0 ((y1.1 ++ [((mLower (mCut (rx (mSplitList (mFieldGet a0 (lit [99, 97, 99, 104, 101, 45, 99, 111, 110, 116, 114, 111, 108])).1) y1.2) (lit [61])).1), (mCut (rx (mSplitList (mFieldGet a0 (lit [99, 97, 99, 104, 101, 45, 99, 111, 110, 116, 114, 111, 108])).1) y1.2) (lit [61])).2.1)]), (IntKind.i64.wrap (y1.2 + 1)))))) ∧
                    (¬ ((bt (mCut (rx (mSplitList (mFieldGet a0 (lit [99, 97, 99, 104, 101, 45, 99, 111, 110, 116, 114, 111, 108])).1) y1.2) (lit [61])).2.1 0) = 34) →
                      pLower (mCut (rx (mSplitList (mFieldGet a0 (lit [99, 97, 99, 104, 101, 45, 99, 111, 110, 116, 114, 111, 108])).1) y1.2) (lit [61])).1 ∧
                      (y1.1.length + [((mLower (mCut (rx (mSplitList (mFieldGet a0 (lit [99, 97, 99, 104, 101, 45, 99, 111, 110, 116, 114, 111, 108])).1) y1.2) (lit [61])).1), (mCut (rx (mSplitList (mFieldGet a0 (lit [99, 97, 99, 104, 101, 45, 99, 111, 110, 116, 114, 111, 108])).1) y1.2) (lit [61])).2.1)].length) * 32 ≤ 140737488355328 ∧
                      (L0 ((y1.1 ++ [((mLower (mCut (rx (mSplitList (mFieldGet a0 (lit [99, 97, 99, 104, 101, 45, 99, 111, 110, 116, 114, 111, 108])).1) y1.2) (lit [61])).1), (mCut (rx (mSplitList (mFieldGet a0 (lit [99, 97, 99, 104, 101, 45, 99, 111, 110, 116, 114, 111, 108])).1) y1.2) (lit [61])).2.1)]), (IntKind.i64.wrap (y1.2 + 1)))))) ∧
                  (¬ (2 ≤ ((mCut (rx (mSplitList (mFieldGet a0 (lit [99, 97, 99, 104, 101, 45, 99, 111, 110, 116, 114, 111, 108])).1) y1.2) (lit [61])).2.1.size : Int)) →
                    pLower (mCut (rx (mSplitList (mFieldGet a0 (lit [99, 97, 99, 104, 101, 45, 99, 111, 110, 116, 114, 111, 108])).1) y1.2) (lit [61])).1 ∧
                    (y1.1.length + [((mLower (mCut (rx (mSplitList (mFieldGet a0 (lit [99, 97, 99, 104, 101, 45, 99, 111, 110, 116, 114, 111, 108])).1) y1.2) (lit [61])).1), (mCut (rx (mSplitList (mFieldGet a0 (lit [99, 97, 99, 104, 101, 45, 99, 111, 110, 116, 114, 111, 108])).1) y1.2) (lit [61])).2.1)].length) * 32 ≤ 140737488355328 ∧
                    (L0 ((y1.1 ++ [((mLower (mCut (rx (mSplitList (mFieldGet a0 (lit [99, 97, 99, 104, 101, 45, 99, 111, 110, 116, 114, 111, 108])).1) y1.2) (lit [61])).1), (mCut (rx (mSplitList (mFieldGet a0 (lit [99, 97, 99, 104, 101, 45, 99, 111, 110, 116, 114, 111, 108])).1) y1.2) (lit [61])).2.1)]), (IntKind.i64.wrap (y1.2 + 1))))))) ∧
              (¬ (y1.2 < ((mSplitList (mFieldGet a0 (lit [99, 97, 99, 104, 101, 45, 99, 111, 110, 116, 114, 111, 108])).1).length : Int)) →
                (Q y1.1))
            ) →
            (L0 y1)))
      ) →
      (L0 ([], 0))))

def s_impl_FieldGet (a0 : (List Fld)) (a1 : S) (Q : ((S × Bool) → Prop)) : Prop :=
  (∀ L0 : (((List S) × Int) → Prop),
    ((
        (∀ y1 : ((List S) × Int),
          ((
              (y1.2 < (a0.length : Int) →
                0 ≤ y1.2 ∧
                y1.2 < (a0.length : Int) ∧
                ((rx a0 y1.2).1 = a1 →
                  (y1.1.length + [(rx a0 y1.2).2].length) * 16 ≤ 140737488355328 ∧
                  (L0 ((y1.1 ++ [(rx a0 y1.2).2]), (IntKind.i64.wrap (y1.2 + 1))))) ∧
                (¬ ((rx a0 y1.2).1 = a1) →
                  (L0 (y1.1, (IntKind.i64.wrap (y1.2 + 1)))))) ∧
              (¬ (y1.2 < (a0.length : Int)) →
                pJoin y1.1 (lit [44, 32]) ∧
                (Q ((mJoin y1.1 (lit [44, 32])), (decide (0 < (y1.1.length : Int))))))
            ) →
            (L0 y1)))
      ) →
      (L0 ([], 0))))

def s_impl_IsTokenText (a0 : S) (Q : (Bool → Prop)) : Prop :=
  (∀ L0 : (Int → Prop),
    ((
        (∀ y1 : Int,
          ((
              (y1 < (a0.size : Int) →
                0 ≤ y1 ∧
                y1 < (a0.size : Int) ∧
                pIsLetterOrDigit (bt a0 y1) ∧
                (¬ ((mIsLetterOrDigit (bt a0 y1)) = true) →
                  0 ≤ y1 ∧
                  y1 < (a0.size : Int) ∧
                  pIndexByte (lit [33, 35, 36, 37, 38, 39, 42, 43, 45, 46, 94, 95, 124, 126, 96]) (bt a0 y1) ∧
                  ((mIndexByte (lit [33, 35, 36, 37, 38, 39, 42, 43, 45, 46, 94, 95, 124, 126, 96]) (bt a0 y1)) < 0 →
                    (Q false)) ∧
                  (¬ ((mIndexByte (lit [33, 35, 36, 37, 38, 39, 42, 43, 45, 46, 94, 95, 124, 126, 96]) (bt a0 y1)) < 0) →
                    (L0 (IntKind.i64.wrap (y1 + 1))))) ∧
                (¬ (¬ ((mIsLetterOrDigit (bt a0 y1)) = true)) →
                  (L0 (IntKind.i64.wrap (y1 + 1))))) ∧
              (¬ (y1 < (a0.size : Int)) →
                (Q (decide (a0 ≠ (lit [])))))
            ) →
            (L0 y1)))
      ) →
      (L0 0)))

def s_impl_SplitList (a0 : S) (Q : ((List S) → Prop)) : Prop :=
  pCommas a0 ∧
  ((mCommas a0).length + [(a0.size : Int)].length) * 8 ≤ 140737488355328 ∧
  (∀ L0 : (((List S) × (Int × Int)) → Prop),
    ((
        (∀ y1 : ((List S) × (Int × Int)),
          ((
              (y1.2.2 < (((mCommas a0) ++ [(a0.size : Int)]).length : Int) →
                0 ≤ y1.2.2 ∧
                y1.2.2 < (((mCommas a0) ++ [(a0.size : Int)]).length : Int) ∧
                0 ≤ y1.2.1 ∧
                y1.2.1 ≤ (rx ((mCommas a0) ++ [(a0.size : Int)]) y1.2.2) ∧
                (rx ((mCommas a0) ++ [(a0.size : Int)]) y1.2.2) ≤ (a0.size : Int) ∧
                pTrim (a0.extract y1.2.1.toNat (rx ((mCommas a0) ++ [(a0.size : Int)]) y1.2.2).toNat) ∧
                ((mTrim (a0.extract y1.2.1.toNat (rx ((mCommas a0) ++ [(a0.size : Int)]) y1.2.2).toNat)) ≠ (lit []) →
                  (y1.1.length + [(mTrim (a0.extract y1.2.1.toNat (rx ((mCommas a0) ++ [(a0.size : Int)]) y1.2.2).toNat))].length) * 16 ≤ 140737488355328 ∧
                  (L0 ((y1.1 ++ [(mTrim (a0.extract y1.2.1.toNat (rx ((mCommas a0) ++ [(a0.size : Int)]) y1.2.2).toNat))]), (IntKind.i64.wrap ((rx ((mCommas a0) ++ [(a0.size : Int)]) y1.2.2) + 1)), (IntKind.i64.wrap (y1.2.2 + 1))))) ∧
                (¬ ((mTrim (a0.extract y1.2.1.toNat (rx ((mCommas a0) ++ [(a0.size : Int)]) y1.2.2).toNat)) ≠ (lit [])) →
                  (L0 (y1.1, (IntKind.i64.wrap ((rx ((mCommas a0) ++ [(a0.size : Int)]) y1.2.2) + 1)), (IntKind.i64.wrap (y1.2.2 + 1)))))) ∧
              (¬ (y1.2.2 < (((mCommas a0) ++ [(a0.size : Int)]).length : Int)) →
                (Q y1.1))
            ) →
            (L0 y1)))
      ) →
      (L0 ([], 0, 0))))

def s_impl_Trim (a0 : S) (Q : (S → Prop)) : Prop :=
  pTrimL a0 (lit [32, 9]) ∧
  (Q (mTrimL a0 (lit [32, 9])))

def s_impl_commas (a0 : S) (Q : ((List Int) → Prop)) : Prop :=
  (∀ L0 : (((List Int) × (Bool × Int)) → Prop),
    ((
        (∀ y1 : ((List Int) × (Bool × Int)),
          ((
              (y1.2.2 < (a0.size : Int) →
                0 ≤ y1.2.2 ∧
                y1.2.2 < (a0.size : Int) ∧
                ((bt a0 y1.2.2) = 34 →
                  (L0 (y1.1, (decide (¬ (y1.2.1 = true))), (IntKind.i64.wrap (y1.2.2 + 1))))) ∧
                (¬ ((bt a0 y1.2.2) = 34) →
                  (y1.2.1 = true →
                    0 ≤ y1.2.2 ∧
                    y1.2.2 < (a0.size : Int) ∧
                    ((bt a0 y1.2.2) = 92 →
                      (L0 (y1.1, y1.2.1, (IntKind.i64.wrap ((IntKind.i64.wrap (y1.2.2 + 1)) + 1))))) ∧
                    (¬ ((bt a0 y1.2.2) = 92) →
                      (¬ (y1.2.1 = true) →
                        0 ≤ y1.2.2 ∧
                        y1.2.2 < (a0.size : Int) ∧
                        ((bt a0 y1.2.2) = 44 →
                          (y1.1.length + [y1.2.2].length) * 8 ≤ 140737488355328 ∧
                          (L0 ((y1.1 ++ [y1.2.2]), y1.2.1, (IntKind.i64.wrap (y1.2.2 + 1))))) ∧
                        (¬ ((bt a0 y1.2.2) = 44) →
                          (L0 (y1.1, y1.2.1, (IntKind.i64.wrap (y1.2.2 + 1)))))) ∧
                      (¬ (¬ (y1.2.1 = true)) →
                        (L0 (y1.1, y1.2.1, (IntKind.i64.wrap (y1.2.2 + 1))))))) ∧
                  (¬ (y1.2.1 = true) →
                    (¬ (y1.2.1 = true) →
                      0 ≤ y1.2.2 ∧
                      y1.2.2 < (a0.size : Int) ∧
                      ((bt a0 y1.2.2) = 44 →
                        (y1.1.length + [y1.2.2].length) * 8 ≤ 140737488355328 ∧
                        (L0 ((y1.1 ++ [y1.2.2]), y1.2.1, (IntKind.i64.wrap (y1.2.2 + 1))))) ∧
                      (¬ ((bt a0 y1.2.2) = 44) →
                        (L0 (y1.1, y1.2.1, (IntKind.i64.wrap (y1.2.2 + 1)))))) ∧
                    (¬ (¬ (y1.2.1 = true)) →
                      (L0 (y1.1, y1.2.1, (IntKind.i64.wrap (y1.2.2 + 1)))))))) ∧
              (¬ (y1.2.2 < (a0.size : Int)) →
                (Q y1.1))
            ) →
            (L0 y1)))
      ) →
      (L0 ([], false, 0))))

def s_impl_hasField (a0 : (List Fld)) (a1 : S) (Q : (Bool → Prop)) : Prop :=
  pFieldGet a0 a1 ∧
  (Q (mFieldGet a0 a1).2)

def s_impl_in (a0 : Int) (a1 : Int) (a2 : Int) (Q : (Bool → Prop)) : Prop :=
  (a1 ≤ a0 →
    (Q (decide (a0 ≤ a2)))) ∧
  (¬ (a1 ≤ a0) →
    (Q false))

def s_impl_isLetterOrDigit (a0 : Int) (Q : (Bool → Prop)) : Prop :=
  (97 ≤ a0 →
    (a0 ≤ 122 →
      (Q true)) ∧
    (¬ (a0 ≤ 122) →
      (65 ≤ a0 →
        (a0 ≤ 90 →
          (Q true)) ∧
        (¬ (a0 ≤ 90) →
          (48 ≤ a0 →
            (Q (decide (a0 ≤ 57)))) ∧
          (¬ (48 ≤ a0) →
            (Q false)))) ∧
      (¬ (65 ≤ a0) →
        (48 ≤ a0 →
          (Q (decide (a0 ≤ 57)))) ∧
        (¬ (48 ≤ a0) →
          (Q false))))) ∧
  (¬ (97 ≤ a0) →
    (65 ≤ a0 →
      (a0 ≤ 90 →
        (Q true)) ∧
      (¬ (a0 ≤ 90) →
        (48 ≤ a0 →
          (Q (decide (a0 ≤ 57)))) ∧
        (¬ (48 ≤ a0) →
          (Q false)))) ∧
    (¬ (65 ≤ a0) →
      (48 ≤ a0 →
        (Q (decide (a0 ≤ 57)))) ∧
      (¬ (48 ≤ a0) →
        (Q false))))

def s_slices_Index_string (a0 : (List S)) (a1 : S) (Q : (Int → Prop)) : Prop :=
  (∀ L0 : (Int → Prop),
    ((
        (∀ y1 : Int,
          ((
              (y1 < (a0.length : Int) →
                0 ≤ y1 ∧
                y1 < (a0.length : Int) ∧
                (a1 = (rx a0 y1) →
                  (Q y1)) ∧
                (¬ (a1 = (rx a0 y1)) →
                  (L0 (IntKind.i64.wrap (y1 + 1))))) ∧
              (¬ (y1 < (a0.length : Int)) →
                (Q (-1)))
            ) →
            (L0 y1)))
      ) →
      (L0 0)))

def s_spec_CcHas (a0 : (List Fld)) (a1 : S) (Q : (Bool → Prop)) : Prop :=
  pDirectives a0 ∧
  (∀ L0 : (Int → Prop),
    ((
        (∀ y1 : Int,
          ((
              (y1 < ((mDirectives a0).length : Int) →
                0 ≤ y1 ∧
                y1 < ((mDirectives a0).length : Int) ∧
                ((rx (mDirectives a0) y1).1 = a1 →
                  (Q true)) ∧
                (¬ ((rx (mDirectives a0) y1).1 = a1) →
                  (L0 (IntKind.i64.wrap (y1 + 1))))) ∧
              (¬ (y1 < ((mDirectives a0).length : Int)) →
                (Q false))
            ) →
            (L0 y1)))
      ) →
      (L0 0)))

def s_spec_Dec (a0 : Int) (Q : (S → Prop)) : Prop :=
  (a0 = 0 →
    (Q (lit [48]))) ∧
  (¬ (a0 = 0) →
    (∀ L0 : ((Int × S) → Prop),
      ((
          (∀ y1 : (Int × S),
            ((
                (y1.1 ≠ 0 →
                  (10 : Int) ≠ 0 ∧
                  ((y1.1.tmod 10) < 0 →
                    (strOf [(IntKind.u8.wrap (IntKind.i64.wrap (48 + (IntKind.i64.wrap (0 - (y1.1.tmod 10))))))]).size + y1.2.size ≤ 9223372036854775807 ∧
                    (10 : Int) ≠ 0 ∧
                    (L0 ((IntKind.i64.wrap (y1.1.tdiv 10)), ((strOf [(IntKind.u8.wrap (IntKind.i64.wrap (48 + (IntKind.i64.wrap (0 - (y1.1.tmod 10))))))]) ++ y1.2)))) ∧
                  (¬ ((y1.1.tmod 10) < 0) →
                    (strOf [(IntKind.u8.wrap (IntKind.i64.wrap (48 + (y1.1.tmod 10))))]).size + y1.2.size ≤ 9223372036854775807 ∧
                    (10 : Int) ≠ 0 ∧
                    (L0 ((IntKind.i64.wrap (y1.1.tdiv 10)), ((strOf [(IntKind.u8.wrap (IntKind.i64.wrap (48 + (y1.1.tmod 10))))]) ++ y1.2))))) ∧
                (¬ (y1.1 ≠ 0) →
                  (a0 < 0 →
                    (lit [45]).size + y1.2.size ≤ 9223372036854775807 ∧
                    (Q ((lit [45]) ++ y1.2))) ∧
                  (¬ (a0 < 0) →
                    (Q y1.2)))
              ) →
              (L0 y1)))
        ) →
        (L0 (a0, (lit []))))))

def s_spec_Directives (a0 : (List Fld)) (Q : ((List Fld) → Prop)) : Prop :=
  pFieldGet a0 (lit [99, 97, 99, 104, 101, 45, 99, 111, 110, 116, 114, 111, 108]) ∧
  pSplitList (mFieldGet a0 (lit [99, 97, 99, 104, 101, 45, 99, 111, 110, 116, 114, 111, 108])).1 ∧
  (∀ L0 : (((List Fld) × Int) → Prop),
    ((
        (∀ y1 : ((List Fld) × Int),
          ((
              (y1.2 < ((mSplitList (mFieldGet a0 (lit [99, 97, 99, 104, 101, 45, 99, 111, 110, 116, 114, 111, 108])).1).length : Int) →
                0 ≤ y1.2 ∧
                y1.2 < ((mSplitList (mFieldGet a0 (lit [99, 97, 99, 104, 101, 45, 99, 111, 110, 116, 114, 111, 108])).1).length : Int) ∧
                (∀ L2 : (Int → Prop),
                  ((
                      (∀ y3 : Int,
                        ((
                            (y3 < ((rx (mSplitList (mFieldGet a0 (lit [99, 97, 99, 104, 101, 45, 99, 111, 110, 116, 114, 111, 108])).1) y1.2).size : Int) →
                              0 ≤ y3 ∧
                              y3 < ((rx (mSplitList (mFieldGet a0 (lit [99, 97, 99, 104, 101, 45, 99, 111, 110, 116, 114, 111, 108])).1) y1.2).size : Int) ∧
                              ((bt (rx (mSplitList (mFieldGet a0 (lit [99, 97, 99, 104, 101, 45, 99, 111, 110, 116, 114, 111, 108])).1) y1.2) y3) ≠ 61 →
                                (L2 (IntKind.i64.wrap (y3 + 1)))) ∧
                              (¬ ((bt (rx (mSplitList (mFieldGet a0 (lit [99, 97, 99, 104, 101, 45, 99, 111, 110, 116, 114, 111, 108])).1) y1.2) y3) ≠ 61) →
                                0 ≤ y3 ∧
                                y3 ≤ ((rx (mSplitList (mFieldGet a0 (lit [99, 97, 99, 104, 101, 45, 99, 111, 110, 116, 114, 111, 108])).1) y1.2).size : Int) ∧
                                pIsTokenText ((rx (mSplitList (mFieldGet a0 (lit [99, 97, 99, 104, 101, 45, 99, 111, 110, 116, 114, 111, 108])).1) y1.2).extract 0 y3.toNat) ∧
                                (¬ ((mIsTokenText ((rx (mSplitList (mFieldGet a0 (lit [99, 97, 99, 104, 101, 45, 99, 111, 110, 116, 114, 111, 108])).1) y1.2).extract 0 y3.toNat)) = true) →
                                  (L0 (y1.1, (IntKind.i64.wrap (y1.2 + 1))))) ∧
                                (¬ (¬ ((mIsTokenText ((rx (mSplitList (mFieldGet a0 (lit [99, 97, 99, 104, 101, 45, 99, 111, 110, 116, 114, 111, 108])).1) y1.2).extract 0 y3.toNat)) = true)) →
                                  0 ≤ y3 ∧
                                  y3 ≤ ((rx (mSplitList (mFieldGet a0 (lit [99, 97, 99, 104, 101, 45, 99, 111, 110, 116, 114, 111, 108])).1) y1.2).size : Int) ∧
                                  pLower ((rx (mSplitList (mFieldGet a0 (lit [99, 97, 99, 104, 101, 45, 99, 111, 110, 116, 114, 111, 108])).1) y1.2).extract 0 y3.toNat) ∧
                                  (y3 < ((rx (mSplitList (mFieldGet a0 (lit [99, 97, 99, 104, 101, 45, 99, 111, 110, 116, 114, 111, 108])).1) y1.2).size : Int) →
                                    0 ≤ (IntKind.i64.wrap (y3 + 1)) ∧
                                    (IntKind.i64.wrap (y3 + 1)) ≤ ((rx (mSplitList (mFieldGet a0 (lit [99, 97, 99, 104, 101, 45, 99, 111, 110, 116, 114, 111, 108])).1) y1.2).size : Int) ∧
                                    pL7Unquote ((rx (mSplitList (mFieldGet a0 (lit [99, 97, 99, 104, 101, 45, 99, 111, 110, 116, 114, 111, 108])).1) y1.2).extract (IntKind.i64.wrap (y3 + 1)).toNat (rx (mSplitList (mFieldGet a0 (lit [99, 97, 99, 104, 101, 45, 99, 111, 110, 116, 114, 111, 108])).1) y1.2).size) ∧
                                    (y1.1.length + [((mLower ((rx (mSplitList (mFieldGet a0 (lit [99, 97, 99, 104, 101, 45, 99, 111, 110, 116, 114, 111, 108])).1) y1.2).extract 0 y3.toNat)), (mL7Unquote ((rx (mSplitList (mFieldGet a0 (lit [99, 97, 99, 104, 101, 45, 99, 111, 110, 116, 114, 111, 108])).1) y1.2).extract (IntKind.i64.wrap (y3 + 1)).toNat (rx (mSplitList (mFieldGet a0 (lit [99, 97, 99, 104, 101, 45, 99, 111, 110, 116, 114, 111, 108])).1) y1.2).size)))].length) * 32 ≤ 140737488355328 ∧
                                    (L0 ((y1.1 ++ [((mLower ((rx (mSplitList (mFieldGet a0 (lit [99, 97, 99, 104, 101, 45, 99, 111, 110, 116, 114, 111, 108])).1) y1.2).extract 0 y3.toNat)), (mL7Unquote ((rx (mSplitList (mFieldGet a0 (lit [99, 97, 99, 104, 101, 45, 99, 111, 110, 116, 114, 111, 108])).1) y1.2).extract (IntKind.i64.wrap (y3 + 1)).toNat (rx (mSplitList (mFieldGet a0 (lit [99, 97, 99, 104, 101, 45, 99, 111, 110, 116, 114, 111, 108])).1) y1.2).size)))]), (IntKind.i64.wrap (y1.2 + 1))))) ∧
                                  (¬ (y3 < ((rx (mSplitList (mFieldGet a0 (lit [99, 97, 99, 104, 101, 45, 99, 111, 110, 116, 114, 111, 108])).1) y1.2).size : Int)) →
                                    (y1.1.length + [((mLower ((rx (mSplitList (mFieldGet a0 (lit [99, 97, 99, 104, 101, 45, 99, 111, 110, 116, 114, 111, 108])).1) y1.2).extract 0 y3.toNat)), (lit []))].length) * 32 ≤ 140737488355328 ∧
                                    (L0 ((y1.1 ++ [((mLower ((rx (mSplitList (mFieldGet a0 (lit [99, 97, 99, 104, 101, 45, 99, 111, 110, 116, 114, 111, 108])).1) y1.2).extract 0 y3.toNat)), (lit []))]), (IntKind.i64.wrap (y1.2 + 1)))))))) ∧
                            (¬ (y3 < ((rx (mSplitList (mFieldGet a0 (lit [99, 97, 99, 104, 101, 45, 99, 111, 110, 116, 114, 111, 108])).1) y1.2).size : Int)) →
                              0 ≤ y3 ∧
                              y3 ≤ ((rx (mSplitList (mFieldGet a0 (lit [99, 97, 99, 104, 101, 45, 99, 111, 110, 116, 114, 111, 108])).1) y1.2).size : Int) ∧
                              pIsTokenText ((rx (mSplitList (mFieldGet a0 (lit [99, 97, 99, 104, 101, 45, 99, 111, 110, 116, 114, 111, 108])).1) y1.2).extract 0 y3.toNat) ∧
                              (¬ ((mIsTokenText ((rx (mSplitList (mFieldGet a0 (lit [99, 97, 99, 104, 101, 45, 99, 111, 110, 116, 114, 111, 108])).1) y1.2).extract 0 y3.toNat)) = true) →
                                (L0 (y1.1, (IntKind.i64.wrap (y1.2 + 1))))) ∧
                              (¬ (¬ ((mIsTokenText ((rx (mSplitList (mFieldGet a0 (lit [99, 97, 99, 104, 101, 45, 99, 111, 110, 116, 114, 111, 108])).1) y1.2).extract 0 y3.toNat)) = true)) →
                                0 ≤ y3 ∧
                                y3 ≤ ((rx (mSplitList (mFieldGet a0 (lit [99, 97, 99, 104, 101, 45, 99, 111, 110, 116, 114, 111, 108])).1) y1.2).size : Int) ∧
                                pLower ((rx (mSplitList (mFieldGet a0 (lit [99, 97, 99, 104, 101, 45, 99, 111, 110, 116, 114, 111, 108])).1) y1.2).extract 0 y3.toNat) ∧
                                (y3 < ((rx (mSplitList (mFieldGet a0 (lit [99, 97, 99, 104, 101, 45, 99, 111, 110, 116, 114, 111, 108])).1) y1.2).size : Int) →
                                  0 ≤ (IntKind.i64.wrap (y3 + 1)) ∧
                                  (IntKind.i64.wrap (y3 + 1)) ≤ ((rx (mSplitList (mFieldGet a0 (lit [99, 97, 99, 104, 101, 45, 99, 111, 110, 116, 114, 111, 108])).1) y1.2).size : Int) ∧
                                  pL7Unquote ((rx (mSplitList (mFieldGet a0 (lit [99, 97, 99, 104, 101, 45, 99, 111, 110, 116, 114, 111, 108])).1) y1.2).extract (IntKind.i64.wrap (y3 + 1)).toNat (rx (mSplitList (mFieldGet a0 (lit [99, 97, 99, 104, 101, 45, 99, 111, 110, 116, 114, 111, 108])).1) y1.2).size) ∧
                                  (y1.1.length + [((mLower ((rx (mSplitList (mFieldGet a0 (lit [99, 97, 99, 104, 101, 45, 99, 111, 110, 116, 114, 111, 108])).1) y1.2).extract 0 y3.toNat)), (mL7Unquote ((rx (mSplitList (mFieldGet a0 (lit [99, 97, 99, 104, 101, 45, 99, 111, 110, 116, 114, 111, 108])).1) y1.2).extract (IntKind.i64.wrap (y3 + 1)).toNat (rx (mSplitList (mFieldGet a0 (lit [99, 97, 99, 104, 101, 45, 99, 111, 110, 116, 114, 111, 108])).1) y1.2).size)))].length) * 32 ≤ 140737488355328 ∧
                                  (L0 ((y1.1 ++ [((mLower ((rx (mSplitList (mFieldGet a0 (lit [99, 97, 99, 104, 101, 45, 99, 111, 110, 116, 114, 111, 108])).1) y1.2).extract 0 y3.toNat)), (mL7Unquote ((rx (mSplitList (mFieldGet a0 (lit [99, 97, 99, 104, 101, 45, 99, 111, 110, 116, 114, 111, 108])).1) y1.2).extract (IntKind.i64.wrap (y3 + 1)).toNat (rx (mSplitList (mFieldGet a0 (lit [99, 97, 99, 104, 101, 45, 99, 111, 110, 116, 114, 111, 108])).1) y1.2).size)))]), (IntKind.i64.wrap (y1.2 + 1))))) ∧
                                (¬ (y3 < ((rx (mSplitList (mFieldGet a0 (lit [99, 97, 99, 104, 101, 45, 99, 111, 110, 116, 114, 111, 108])).1) y1.2).size : Int)) →
                                  (y1.1.length + [((mLower ((rx (mSplitList (mFieldGet a0 (lit [99, 97, 99, 104, 101, 45, 99, 111, 110, 116, 114, 111, 108])).1) y1.2).extract 0 y3.toNat)), (lit []))].length) * 32 ≤ 140737488355328 ∧
                                  (L0 ((y1.1 ++ [((mLower ((rx (mSplitList (mFieldGet a0 (lit [99, 97, 99, 104, 101, 45, 99, 111, 110, 116, 114, 111, 108])).1) y1.2).extract 0 y3.toNat)), (lit []))]), (IntKind.i64.wrap (y1.2 + 1)))))))
                          ) →
                          (L2 y3)))
                    ) →
                    (L2 0)))) ∧
              (¬ (y1.2 < ((mSplitList (mFieldGet a0 (lit [99, 97, 99, 104, 101, 45, 99, 111, 110, 116, 114, 111, 108])).1).length : Int)) →
                (Q y1.1))
            ) →
            (L0 y1)))
      ) →
      (L0 ([], 0))))

def s_spec_FieldGet (a0 : (List Fld)) (a1 : S) (Q : ((S × Bool) → Prop)) : Prop :=
  (∀ L0 : ((S × (Bool × Int)) → Prop),
    ((
        (∀ y1 : (S × (Bool × Int)),
          ((
              (y1.2.2 < (a0.length : Int) →
                0 ≤ y1.2.2 ∧
                y1.2.2 < (a0.length : Int) ∧
                ((rx a0 y1.2.2).1 ≠ a1 →
                  (L0 (y1.1, y1.2.1, (IntKind.i64.wrap (y1.2.2 + 1))))) ∧
                (¬ ((rx a0 y1.2.2).1 ≠ a1) →
                  (y1.2.1 = true →
                    y1.1.size + (lit [44, 32]).size ≤ 9223372036854775807 ∧
                    0 ≤ y1.2.2 ∧
                    y1.2.2 < (a0.length : Int) ∧
                    (y1.1 ++ (lit [44, 32])).size + (rx a0 y1.2.2).2.size ≤ 9223372036854775807 ∧
                    (L0 (((y1.1 ++ (lit [44, 32])) ++ (rx a0 y1.2.2).2), true, (IntKind.i64.wrap (y1.2.2 + 1))))) ∧
                  (¬ (y1.2.1 = true) →
                    0 ≤ y1.2.2 ∧
                    y1.2.2 < (a0.length : Int) ∧
                    y1.1.size + (rx a0 y1.2.2).2.size ≤ 9223372036854775807 ∧
                    (L0 ((y1.1 ++ (rx a0 y1.2.2).2), true, (IntKind.i64.wrap (y1.2.2 + 1))))))) ∧
              (¬ (y1.2.2 < (a0.length : Int)) →
                (Q (y1.1, y1.2.1)))
            ) →
            (L0 y1)))
      ) →
      (L0 ((lit []), false, 0))))

def s_spec_IsTokenText (a0 : S) (Q : (Bool → Prop)) : Prop :=
  (∀ L0 : (Int → Prop),
    ((
        (∀ y1 : Int,
          ((
              (y1 < (a0.size : Int) →
                0 ≤ y1 ∧
                y1 < (a0.size : Int) ∧
                pToken (bt a0 y1) ∧
                (¬ ((mToken (bt a0 y1)) = true) →
                  (Q false)) ∧
                (¬ (¬ ((mToken (bt a0 y1)) = true)) →
                  (L0 (IntKind.i64.wrap (y1 + 1))))) ∧
              (¬ (y1 < (a0.size : Int)) →
                (Q (decide (0 < (a0.size : Int)))))
            ) →
            (L0 y1)))
      ) →
      (L0 0)))

def s_spec_Lower (a0 : S) (Q : (S → Prop)) : Prop :=
  a0.size ≤ 140737488355328 ∧
  (∀ L0 : ((Int × (List Int)) → Prop),
    ((
        (∀ y1 : (Int × (List Int)),
          ((
              (y1.1 < (y1.2.length : Int) →
                0 ≤ y1.1 ∧
                y1.1 < (y1.2.length : Int) ∧
                (65 ≤ (rx y1.2 y1.1) →
                  0 ≤ y1.1 ∧
                  y1.1 < (y1.2.length : Int) ∧
                  ((rx y1.2 y1.1) ≤ 90 →
                    0 ≤ y1.1 ∧
                    y1.1 < (y1.2.length : Int) ∧
                    0 ≤ y1.1 ∧
                    y1.1 < (y1.2.length : Int) ∧
                    (L0 ((IntKind.i64.wrap (y1.1 + 1)), (y1.2.set y1.1.toNat (IntKind.u8.wrap ((rx y1.2 y1.1) + 32)))))) ∧
                  (¬ ((rx y1.2 y1.1) ≤ 90) →
                    (L0 ((IntKind.i64.wrap (y1.1 + 1)), y1.2)))) ∧
                (¬ (65 ≤ (rx y1.2 y1.1)) →
                  (L0 ((IntKind.i64.wrap (y1.1 + 1)), y1.2)))) ∧
              (¬ (y1.1 < (y1.2.length : Int)) →
                (Q (strOf y1.2)))
            ) →
            (L0 y1)))
      ) →
      (L0 (0, (bytesOf a0)))))

def s_spec_SplitList (a0 : S) (Q : ((List S) → Prop)) : Prop :=
  (∀ L0 : (((List S) × (Int × (Bool × Int))) → Prop),
    ((
        (∀ y1 : ((List S) × (Int × (Bool × Int))),
          ((
              (y1.2.2.2 ≤ (a0.size : Int) →
                (y1.2.2.2 < (a0.size : Int) →
                  0 ≤ y1.2.2.2 ∧
                  y1.2.2.2 < (a0.size : Int) ∧
                  ((bt a0 y1.2.2.2) = 34 →
                    (y1.2.2.2 < (a0.size : Int) →
                      (¬ (y1.2.2.1 = true) →
                        0 ≤ y1.2.2.2 ∧
                        y1.2.2.2 < (a0.size : Int) ∧
                        ((bt a0 y1.2.2.2) = 92 →
                          (L0 (y1.1, y1.2.1, (decide (¬ (y1.2.2.1 = true))), (IntKind.i64.wrap ((IntKind.i64.wrap (y1.2.2.2 + 1)) + 1))))) ∧
                        (¬ ((bt a0 y1.2.2.2) = 92) →
                          ((a0.size : Int) ≤ y1.2.2.2 →
                            0 ≤ y1.2.1 ∧
                            y1.2.1 ≤ (if (a0.size : Int) < y1.2.2.2 then (a0.size : Int) else y1.2.2.2) ∧
                            (if (a0.size : Int) < y1.2.2.2 then (a0.size : Int) else y1.2.2.2) ≤ (a0.size : Int) ∧
                            pTrim (a0.extract y1.2.1.toNat (if (a0.size : Int) < y1.2.2.2 then (a0.size : Int) else y1.2.2.2).toNat) ∧
                            ((mTrim (a0.extract y1.2.1.toNat (if (a0.size : Int) < y1.2.2.2 then (a0.size : Int) else y1.2.2.2).toNat)) ≠ (lit []) →
                              (y1.1.length + [(mTrim (a0.extract y1.2.1.toNat (if (a0.size : Int) < y1.2.2.2 then (a0.size : Int) else y1.2.2.2).toNat))].length) * 16 ≤ 140737488355328 ∧
                              (L0 ((y1.1 ++ [(mTrim (a0.extract y1.2.1.toNat (if (a0.size : Int) < y1.2.2.2 then (a0.size : Int) else y1.2.2.2).toNat))]), (IntKind.i64.wrap (y1.2.2.2 + 1)), (decide (¬ (y1.2.2.1 = true))), (IntKind.i64.wrap (y1.2.2.2 + 1))))) ∧
                            (¬ ((mTrim (a0.extract y1.2.1.toNat (if (a0.size : Int) < y1.2.2.2 then (a0.size : Int) else y1.2.2.2).toNat)) ≠ (lit [])) →
                              (L0 (y1.1, (IntKind.i64.wrap (y1.2.2.2 + 1)), (decide (¬ (y1.2.2.1 = true))), (IntKind.i64.wrap (y1.2.2.2 + 1)))))) ∧
                          (¬ ((a0.size : Int) ≤ y1.2.2.2) →
                            0 ≤ y1.2.2.2 ∧
                            y1.2.2.2 < (a0.size : Int) ∧
                            ((bt a0 y1.2.2.2) = 44 →
                              (¬ (¬ (y1.2.2.1 = true)) →
                                0 ≤ y1.2.1 ∧
                                y1.2.1 ≤ (if (a0.size : Int) < y1.2.2.2 then (a0.size : Int) else y1.2.2.2) ∧
                                (if (a0.size : Int) < y1.2.2.2 then (a0.size : Int) else y1.2.2.2) ≤ (a0.size : Int) ∧
                                pTrim (a0.extract y1.2.1.toNat (if (a0.size : Int) < y1.2.2.2 then (a0.size : Int) else y1.2.2.2).toNat) ∧
                                ((mTrim (a0.extract y1.2.1.toNat (if (a0.size : Int) < y1.2.2.2 then (a0.size : Int) else y1.2.2.2).toNat)) ≠ (lit []) →
                                  (y1.1.length + [(mTrim (a0.extract y1.2.1.toNat (if (a0.size : Int) < y1.2.2.2 then (a0.size : Int) else y1.2.2.2).toNat))].length) * 16 ≤ 140737488355328 ∧
                                  (L0 ((y1.1 ++ [(mTrim (a0.extract y1.2.1.toNat (if (a0.size : Int) < y1.2.2.2 then (a0.size : Int) else y1.2.2.2).toNat))]), (IntKind.i64.wrap (y1.2.2.2 + 1)), (decide (¬ (y1.2.2.1 = true))), (IntKind.i64.wrap (y1.2.2.2 + 1))))) ∧
                                (¬ ((mTrim (a0.extract y1.2.1.toNat (if (a0.size : Int) < y1.2.2.2 then (a0.size : Int) else y1.2.2.2).toNat)) ≠ (lit [])) →
                                  (L0 (y1.1, (IntKind.i64.wrap (y1.2.2.2 + 1)), (decide (¬ (y1.2.2.1 = true))), (IntKind.i64.wrap (y1.2.2.2 + 1)))))) ∧
                              (¬ (¬ (¬ (y1.2.2.1 = true))) →
                                (L0 (y1.1, y1.2.1, (decide (¬ (y1.2.2.1 = true))), (IntKind.i64.wrap (y1.2.2.2 + 1)))))) ∧
                            (¬ ((bt a0 y1.2.2.2) = 44) →
                              (L0 (y1.1, y1.2.1, (decide (¬ (y1.2.2.1 = true))), (IntKind.i64.wrap (y1.2.2.2 + 1)))))))) ∧
                      (¬ (¬ (y1.2.2.1 = true)) →
                        ((a0.size : Int) ≤ y1.2.2.2 →
                          0 ≤ y1.2.1 ∧
                          y1.2.1 ≤ (if (a0.size : Int) < y1.2.2.2 then (a0.size : Int) else y1.2.2.2) ∧
                          (if (a0.size : Int) < y1.2.2.2 then (a0.size : Int) else y1.2.2.2) ≤ (a0.size : Int) ∧
                          pTrim (a0.extract y1.2.1.toNat (if (a0.size : Int) < y1.2.2.2 then (a0.size : Int) else y1.2.2.2).toNat) ∧
                          ((mTrim (a0.extract y1.2.1.toNat (if (a0.size : Int) < y1.2.2.2 then (a0.size : Int) else y1.2.2.2).toNat)) ≠ (lit []) →
                            (y1.1.length + [(mTrim (a0.extract y1.2.1.toNat (if (a0.size : Int) < y1.2.2.2 then (a0.size : Int) else y1.2.2.2).toNat))].length) * 16 ≤ 140737488355328 ∧
                            (L0 ((y1.1 ++ [(mTrim (a0.extract y1.2.1.toNat (if (a0.size : Int) < y1.2.2.2 then (a0.size : Int) else y1.2.2.2).toNat))]), (IntKind.i64.wrap (y1.2.2.2 + 1)), (decide (¬ (y1.2.2.1 = true))), (IntKind.i64.wrap (y1.2.2.2 + 1))))) ∧
                          (¬ ((mTrim (a0.extract y1.2.1.toNat (if (a0.size : Int) < y1.2.2.2 then (a0.size : Int) else y1.2.2.2).toNat)) ≠ (lit [])) →
                            (L0 (y1.1, (IntKind.i64.wrap (y1.2.2.2 + 1)), (decide (¬ (y1.2.2.1 = true))), (IntKind.i64.wrap (y1.2.2.2 + 1)))))) ∧
                        (¬ ((a0.size : Int) ≤ y1.2.2.2) →
                          0 ≤ y1.2.2.2 ∧
                          y1.2.2.2 < (a0.size : Int) ∧
                          ((bt a0 y1.2.2.2) = 44 →
                            (¬ (¬ (y1.2.2.1 = true)) →
                              0 ≤ y1.2.1 ∧
                              y1.2.1 ≤ (if (a0.size : Int) < y1.2.2.2 then (a0.size : Int) else y1.2.2.2) ∧
                              (if (a0.size : Int) < y1.2.2.2 then (a0.size : Int) else y1.2.2.2) ≤ (a0.size : Int) ∧
                              pTrim (a0.extract y1.2.1.toNat (if (a0.size : Int) < y1.2.2.2 then (a0.size : Int) else y1.2.2.2).toNat) ∧
                              ((mTrim (a0.extract y1.2.1.toNat (if (a0.size : Int) < y1.2.2.2 then (a0.size : Int) else y1.2.2.2).toNat)) ≠ (lit []) →
                                (y1.1.length + [(mTrim (a0.extract y1.2.1.toNat (if (a0.size : Int) < y1.2.2.2 then (a0.size : Int) else y1.2.2.2).toNat))].length) * 16 ≤ 140737488355328 ∧
                                (L0 ((y1.1 ++ [(mTrim (a0.extract y1.2.1.toNat (if (a0.size : Int) < y1.2.2.2 then (a0.size : Int) else y1.2.2.2).toNat))]), (IntKind.i64.wrap (y1.2.2.2 + 1)), (decide (¬ (y1.2.2.1 = true))), (IntKind.i64.wrap (y1.2.2.2 + 1))))) ∧
                              (¬ ((mTrim (a0.extract y1.2.1.toNat (if (a0.size : Int) < y1.2.2.2 then (a0.size : Int) else y1.2.2.2).toNat)) ≠ (lit [])) →
                                (L0 (y1.1, (IntKind.i64.wrap (y1.2.2.2 + 1)), (decide (¬ (y1.2.2.1 = true))), (IntKind.i64.wrap (y1.2.2.2 + 1)))))) ∧
                            (¬ (¬ (¬ (y1.2.2.1 = true))) →
                              (L0 (y1.1, y1.2.1, (decide (¬ (y1.2.2.1 = true))), (IntKind.i64.wrap (y1.2.2.2 + 1)))))) ∧
                          (¬ ((bt a0 y1.2.2.2) = 44) →
                            (L0 (y1.1, y1.2.1, (decide (¬ (y1.2.2.1 = true))), (IntKind.i64.wrap (y1.2.2.2 + 1)))))))) ∧
                    (¬ (y1.2.2.2 < (a0.size : Int)) →
                      ((a0.size : Int) ≤ y1.2.2.2 →
                        0 ≤ y1.2.1 ∧
                        y1.2.1 ≤ (if (a0.size : Int) < y1.2.2.2 then (a0.size : Int) else y1.2.2.2) ∧
                        (if (a0.size : Int) < y1.2.2.2 then (a0.size : Int) else y1.2.2.2) ≤ (a0.size : Int) ∧
                        pTrim (a0.extract y1.2.1.toNat (if (a0.size : Int) < y1.2.2.2 then (a0.size : Int) else y1.2.2.2).toNat) ∧
                        ((mTrim (a0.extract y1.2.1.toNat (if (a0.size : Int) < y1.2.2.2 then (a0.size : Int) else y1.2.2.2).toNat)) ≠ (lit []) →
                          (y1.1.length + [(mTrim (a0.extract y1.2.1.toNat (if (a0.size : Int) < y1.2.2.2 then (a0.size : Int) else y1.2.2.2).toNat))].length) * 16 ≤ 140737488355328 ∧
                          (L0 ((y1.1 ++ [(mTrim (a0.extract y1.2.1.toNat (if (a0.size : Int) < y1.2.2.2 then (a0.size : Int) else y1.2.2.2).toNat))]), (IntKind.i64.wrap (y1.2.2.2 + 1)), (decide (¬ (y1.2.2.1 = true))), (IntKind.i64.wrap (y1.2.2.2 + 1))))) ∧
                        (¬ ((mTrim (a0.extract y1.2.1.toNat (if (a0.size : Int) < y1.2.2.2 then (a0.size : Int) else y1.2.2.2).toNat)) ≠ (lit [])) →
                          (L0 (y1.1, (IntKind.i64.wrap (y1.2.2.2 + 1)), (decide (¬ (y1.2.2.1 = true))), (IntKind.i64.wrap (y1.2.2.2 + 1)))))) ∧
                      (¬ ((a0.size : Int) ≤ y1.2.2.2) →
                        0 ≤ y1.2.2.2 ∧
                        y1.2.2.2 < (a0.size : Int) ∧
                        ((bt a0 y1.2.2.2) = 44 →
                          (¬ (¬ (y1.2.2.1 = true)) →
                            0 ≤ y1.2.1 ∧
                            y1.2.1 ≤ (if (a0.size : Int) < y1.2.2.2 then (a0.size : Int) else y1.2.2.2) ∧
                            (if (a0.size : Int) < y1.2.2.2 then (a0.size : Int) else y1.2.2.2) ≤ (a0.size : Int) ∧
                            pTrim (a0.extract y1.2.1.toNat (if (a0.size : Int) < y1.2.2.2 then (a0.size : Int) else y1.2.2.2).toNat) ∧
                            ((mTrim (a0.extract y1.2.1.toNat (if (a0.size : Int) < y1.2.2.2 then (a0.size : Int) else y1.2.2.2).toNat)) ≠ (lit []) →
                              (y1.1.length + [(mTrim (a0.extract y1.2.1.toNat (if (a0.size : Int) < y1.2.2.2 then (a0.size : Int) else y1.2.2.2).toNat))].length) * 16 ≤ 140737488355328 ∧
                              (L0 ((y1.1 ++ [(mTrim (a0.extract y1.2.1.toNat (if (a0.size : Int) < y1.2.2.2 then (a0.size : Int) else y1.2.2.2).toNat))]), (IntKind.i64.wrap (y1.2.2.2 + 1)), (decide (¬ (y1.2.2.1 = true))), (IntKind.i64.wrap (y1.2.2.2 + 1))))) ∧
                            (¬ ((mTrim (a0.extract y1.2.1.toNat (if (a0.size : Int) < y1.2.2.2 then (a0.size : Int) else y1.2.2.2).toNat)) ≠ (lit [])) →
                              (L0 (y1.1, (IntKind.i64.wrap (y1.2.2.2 + 1)), (decide (¬ (y1.2.2.1 = true))), (IntKind.i64.wrap (y1.2.2.2 + 1)))))) ∧
                          (¬ (¬ (¬ (y1.2.2.1 = true))) →
                            (L0 (y1.1, y1.2.1, (decide (¬ (y1.2.2.1 = true))), (IntKind.i64.wrap (y1.2.2.2 + 1)))))) ∧
                        (¬ ((bt a0 y1.2.2.2) = 44) →
                          (L0 (y1.1, y1.2.1, (decide (¬ (y1.2.2.1 = true))), (IntKind.i64.wrap (y1.2.2.2 + 1)))))))) ∧
                  (¬ ((bt a0 y1.2.2.2) = 34) →
                    (y1.2.2.2 < (a0.size : Int) →
                      (y1.2.2.1 = true →
                        0 ≤ y1.2.2.2 ∧
                        y1.2.2.2 < (a0.size : Int) ∧
                        ((bt a0 y1.2.2.2) = 92 →
                          (L0 (y1.1, y1.2.1, y1.2.2.1, (IntKind.i64.wrap ((IntKind.i64.wrap (y1.2.2.2 + 1)) + 1))))) ∧
                        (¬ ((bt a0 y1.2.2.2) = 92) →
                          ((a0.size : Int) ≤ y1.2.2.2 →
                            0 ≤ y1.2.1 ∧
                            y1.2.1 ≤ (if (a0.size : Int) < y1.2.2.2 then (a0.size : Int) else y1.2.2.2) ∧
                            (if (a0.size : Int) < y1.2.2.2 then (a0.size : Int) else y1.2.2.2) ≤ (a0.size : Int) ∧
                            pTrim (a0.extract y1.2.1.toNat (if (a0.size : Int) < y1.2.2.2 then (a0.size : Int) else y1.2.2.2).toNat) ∧
                            ((mTrim (a0.extract y1.2.1.toNat (if (a0.size : Int) < y1.2.2.2 then (a0.size : Int) else y1.2.2.2).toNat)) ≠ (lit []) →
                              (y1.1.length + [(mTrim (a0.extract y1.2.1.toNat (if (a0.size : Int) < y1.2.2.2 then (a0.size : Int) else y1.2.2.2).toNat))].length) * 16 ≤ 140737488355328 ∧
                              (L0 ((y1.1 ++ [(mTrim (a0.extract y1.2.1.toNat (if (a0.size : Int) < y1.2.2.2 then (a0.size : Int) else y1.2.2.2).toNat))]), (IntKind.i64.wrap (y1.2.2.2 + 1)), y1.2.2.1, (IntKind.i64.wrap (y1.2.2.2 + 1))))) ∧
                            (¬ ((mTrim (a0.extract y1.2.1.toNat (if (a0.size : Int) < y1.2.2.2 then (a0.size : Int) else y1.2.2.2).toNat)) ≠ (lit [])) →
                              (L0 (y1.1, (IntKind.i64.wrap (y1.2.2.2 + 1)), y1.2.2.1, (IntKind.i64.wrap (y1.2.2.2 + 1)))))) ∧
                          (¬ ((a0.size : Int) ≤ y1.2.2.2) →
                            0 ≤ y1.2.2.2 ∧
                            y1.2.2.2 < (a0.size : Int) ∧
                            ((bt a0 y1.2.2.2) = 44 →
                              (¬ (y1.2.2.1 = true) →
                                0 ≤ y1.2.1 ∧
                                y1.2.1 ≤ (if (a0.size : Int) < y1.2.2.2 then (a0.size : Int) else y1.2.2.2) ∧
                                (if (a0.size : Int) < y1.2.2.2 then (a0.size : Int) else y1.2.2.2) ≤ (a0.size : Int) ∧
                                pTrim (a0.extract y1.2.1.toNat (if (a0.size : Int) < y1.2.2.2 then (a0.size : Int) else y1.2.2.2).toNat) ∧
                                ((mTrim (a0.extract y1.2.1.toNat (if (a0.size : Int) < y1.2.2.2 then (a0.size : Int) else y1.2.2.2).toNat)) ≠ (lit []) →
                                  (y1.1.length + [(mTrim (a0.extract y1.2.1.toNat (if (a0.size : Int) < y1.2.2.2 then (a0.size : Int) else y1.2.2.2).toNat))].length) * 16 ≤ 140737488355328 ∧
                                  (L0 ((y1.1 ++ [(mTrim (a0.extract y1.2.1.toNat (if (a0.size : Int) < y1.2.2.2 then (a0.size : Int) else y1.2.2.2).toNat))]), (IntKind.i64.wrap (y1.2.2.2 + 1)), y1.2.2.1, (IntKind.i64.wrap (y1.2.2.2 + 1))))) ∧
                                (¬ ((mTrim (a0.extract y1.2.1.toNat (if (a0.size : Int) < y1.2.2.2 then (a0.size : Int) else y1.2.2.2).toNat)) ≠ (lit [])) →
                                  (L0 (y1.1, (IntKind.i64.wrap (y1.2.2.2 + 1)), y1.2.2.1, (IntKind.i64.wrap (y1.2.2.2 + 1)))))) ∧
                              (¬ (¬ (y1.2.2.1 = true)) →
                                (L0 (y1.1, y1.2.1, y1.2.2.1, (IntKind.i64.wrap (y1.2.2.2 + 1)))))) ∧
                            (¬ ((bt a0 y1.2.2.2) = 44) →
                              (L0 (y1.1, y1.2.1, y1.2.2.1, (IntKind.i64.wrap (y1.2.2.2 + 1)))))))) ∧
                      (¬ (y1.2.2.1 = true) →
                        ((a0.size : Int) ≤ y1.2.2.2 →
                          0 ≤ y1.2.1 ∧
                          y1.2.1 ≤ (if (a0.size : Int) < y1.2.2.2 then (a0.size : Int) else y1.2.2.2) ∧
                          (if (a0.size : Int) < y1.2.2.2 then (a0.size : Int) else y1.2.2.2) ≤ (a0.size : Int) ∧
                          pTrim (a0.extract y1.2.1.toNat (if (a0.size : Int) < y1.2.2.2 then (a0.size : Int) else y1.2.2.2).toNat) ∧
                          ((mTrim (a0.extract y1.2.1.toNat (if (a0.size : Int) < y1.2.2.2 then (a0.size : Int) else y1.2.2.2).toNat)) ≠ (lit []) →
                            (y1.1.length + [(mTrim (a0.extract y1.2.1.toNat (if (a0.size : Int) < y1.2.2.2 then (a0.size : Int) else y1.2.2.2).toNat))].length) * 16 ≤ 140737488355328 ∧
                            (L0 ((y1.1 ++ [(mTrim (a0.extract y1.2.1.toNat (if (a0.size : Int) < y1.2.2.2 then (a0.size : Int) else y1.2.2.2).toNat))]), (IntKind.i64.wrap (y1.2.2.2 + 1)), y1.2.2.1, (IntKind.i64.wrap (y1.2.2.2 + 1))))) ∧
                          (¬ ((mTrim (a0.extract y1.2.1.toNat (if (a0.size : Int) < y1.2.2.2 then (a0.size : Int) else y1.2.2.2).toNat)) ≠ (lit [])) →
                            (L0 (y1.1, (IntKind.i64.wrap (y1.2.2.2 + 1)), y1.2.2.1, (IntKind.i64.wrap (y1.2.2.2 + 1)))))) ∧
                        (¬ ((a0.size : Int) ≤ y1.2.2.2) →
                          0 ≤ y1.2.2.2 ∧
                          y1.2.2.2 < (a0.size : Int) ∧
                          ((bt a0 y1.2.2.2) = 44 →
                            (¬ (y1.2.2.1 = true) →
                              0 ≤ y1.2.1 ∧
                              y1.2.1 ≤ (if (a0.size : Int) < y1.2.2.2 then (a0.size : Int) else y1.2.2.2) ∧
                              (if (a0.size : Int) < y1.2.2.2 then (a0.size : Int) else y1.2.2.2) ≤ (a0.size : Int) ∧
                              pTrim (a0.extract y1.2.1.toNat (if (a0.size : Int) < y1.2.2.2 then (a0.size : Int) else y1.2.2.2).toNat) ∧
                              ((mTrim (a0.extract y1.2.1.toNat (if (a0.size : Int) < y1.2.2.2 then (a0.size : Int) else y1.2.2.2).toNat)) ≠ (lit []) →
                                (y1.1.length + [(mTrim (a0.extract y1.2.1.toNat (if (a0.size : Int) < y1.2.2.2 then (a0.size : Int) else y1.2.2.2).toNat))].length) * 16 ≤ 140737488355328 ∧
                                (L0 ((y1.1 ++ [(mTrim (a0.extract y1.2.1.toNat (if (a0.size : Int) < y1.2.2.2 then (a0.size : Int) else y1.2.2.2).toNat))]), (IntKind.i64.wrap (y1.2.2.2 + 1)), y1.2.2.1, (IntKind.i64.wrap (y1.2.2.2 + 1))))) ∧
                              (¬ ((mTrim (a0.extract y1.2.1.toNat (if (a0.size : Int) < y1.2.2.2 then (a0.size : Int) else y1.2.2.2).toNat)) ≠ (lit [])) →
                                (L0 (y1.1, (IntKind.i64.wrap (y1.2.2.2 + 1)), y1.2.2.1, (IntKind.i64.wrap (y1.2.2.2 + 1)))))) ∧
                            (¬ (¬ (y1.2.2.1 = true)) →
                              (L0 (y1.1, y1.2.1, y1.2.2.1, (IntKind.i64.wrap (y1.2.2.2 + 1)))))) ∧
                          (¬ ((bt a0 y1.2.2.2) = 44) →
                            (L0 (y1.1, y1.2.1, y1.2.2.1, (IntKind.i64.wrap (y1.2.2.2 + 1)))))))) ∧
                    (¬ (y1.2.2.2 < (a0.size : Int)) →
                      ((a0.size : Int) ≤ y1.2.2.2 →
                        0 ≤ y1.2.1 ∧
                        y1.2.1 ≤ (if (a0.size : Int) < y1.2.2.2 then (a0.size : Int) else y1.2.2.2) ∧
                        (if (a0.size : Int) < y1.2.2.2 then (a0.size : Int) else y1.2.2.2) ≤ (a0.size : Int) ∧
                        pTrim (a0.extract y1.2.1.toNat (if (a0.size : Int) < y1.2.2.2 then (a0.size : Int) else y1.2.2.2).toNat) ∧
                        ((mTrim (a0.extract y1.2.1.toNat (if (a0.size : Int) < y1.2.2.2 then (a0.size : Int) else y1.2.2.2).toNat)) ≠ (lit []) →
                          (y1.1.length + [(mTrim (a0.extract y1.2.1.toNat (if (a0.size : Int) < y1.2.2.2 then (a0.size : Int) else y1.2.2.2).toNat))].length) * 16 ≤ 140737488355328 ∧
                          (L0 ((y1.1 ++ [(mTrim (a0.extract y1.2.1.toNat (if (a0.size : Int) < y1.2.2.2 then (a0.size : Int) else y1.2.2.2).toNat))]), (IntKind.i64.wrap (y1.2.2.2 + 1)), y1.2.2.1, (IntKind.i64.wrap (y1.2.2.2 + 1))))) ∧
                        (¬ ((mTrim (a0.extract y1.2.1.toNat (if (a0.size : Int) < y1.2.2.2 then (a0.size : Int) else y1.2.2.2).toNat)) ≠ (lit [])) →
                          (L0 (y1.1, (IntKind.i64.wrap (y1.2.2.2 + 1)), y1.2.2.1, (IntKind.i64.wrap (y1.2.2.2 + 1)))))) ∧
                      (¬ ((a0.size : Int) ≤ y1.2.2.2) →
                        0 ≤ y1.2.2.2 ∧
                        y1.2.2.2 < (a0.size : Int) ∧
                        ((bt a0 y1.2.2.2) = 44 →
                          (¬ (y1.2.2.1 = true) →
                            0 ≤ y1.2.1 ∧
                            y1.2.1 ≤ (if (a0.size : Int) < y1.2.2.2 then (a0.size : Int) else y1.2.2.2) ∧
                            (if (a0.size : Int) < y1.2.2.2 then (a0.size : Int) else y1.2.2.2) ≤ (a0.size : Int) ∧
                            pTrim (a0.extract y1.2.1.toNat (if (a0.size : Int) < y1.2.2.2 then (a0.size : Int) else y1.2.2.2).toNat) ∧
                            ((mTrim (a0.extract y1.2.1.toNat (if (a0.size : Int) < y1.2.2.2 then (a0.size : Int) else y1.2.2.2).toNat)) ≠ (lit []) →
                              (y1.1.length + [(mTrim (a0.extract y1.2.1.toNat (if (a0.size : Int) < y1.2.2.2 then (a0.size : Int) else y1.2.2.2).toNat))].length) * 16 ≤ 140737488355328 ∧
                              (L0 ((y1.1 ++ [(mTrim (a0.extract y1.2.1.toNat (if (a0.size : Int) < y1.2.2.2 then (a0.size : Int) else y1.2.2.2).toNat))]), (IntKind.i64.wrap (y1.2.2.2 + 1)), y1.2.2.1, (IntKind.i64.wrap (y1.2.2.2 + 1))))) ∧
                            (¬ ((mTrim (a0.extract y1.2.1.toNat (if (a0.size : Int) < y1.2.2.2 then (a0.size : Int) else y1.2.2.2).toNat)) ≠ (lit [])) →
                              (L0 (y1.1, (IntKind.i64.wrap (y1.2.2.2 + 1)), y1.2.2.1, (IntKind.i64.wrap (y1.2.2.2 + 1)))))) ∧
                          (¬ (¬ (y1.2.2.1 = true)) →
                            (L0 (y1.1, y1.2.1, y1.2.2.1, (IntKind.i64.wrap (y1.2.2.2 + 1)))))) ∧
                        (¬ ((bt a0 y1.2.2.2) = 44) →
                          (L0 (y1.1, y1.2.1, y1.2.2.1, (IntKind.i64.wrap (y1.2.2.2 + 1))))))))) ∧
                (¬ (y1.2.2.2 < (a0.size : Int)) →
                  (y1.2.2.2 < (a0.size : Int) →
                    (y1.2.2.1 = true →
                      0 ≤ y1.2.2.2 ∧
                      y1.2.2.2 < (a0.size : Int) ∧
                      ((bt a0 y1.2.2.2) = 92 →
                        (L0 (y1.1, y1.2.1, y1.2.2.1, (IntKind.i64.wrap ((IntKind.i64.wrap (y1.2.2.2 + 1)) + 1))))) ∧
                      (¬ ((bt a0 y1.2.2.2) = 92) →
                        ((a0.size : Int) ≤ y1.2.2.2 →
                          0 ≤ y1.2.1 ∧
                          y1.2.1 ≤ (if (a0.size : Int) < y1.2.2.2 then (a0.size : Int) else y1.2.2.2) ∧
                          (if (a0.size : Int) < y1.2.2.2 then (a0.size : Int) else y1.2.2.2) ≤ (a0.size : Int) ∧
                          pTrim (a0.extract y1.2.1.toNat (if (a0.size : Int) < y1.2.2.2 then (a0.size : Int) else y1.2.2.2).toNat) ∧
                          ((mTrim (a0.extract y1.2.1.toNat (if (a0.size : Int) < y1.2.2.2 then (a0.size : Int) else y1.2.2.2).toNat)) ≠ (lit []) →
                            (y1.1.length + [(mTrim (a0.extract y1.2.1.toNat (if (a0.size : Int) < y1.2.2.2 then (a0.size : Int) else y1.2.2.2).toNat))].length) * 16 ≤ 140737488355328 ∧
                            (L0 ((y1.1 ++ [(mTrim (a0.extract y1.2.1.toNat (if (a0.size : Int) < y1.2.2.2 then (a0.size : Int) else y1.2.2.2).toNat))]), (IntKind.i64.wrap (y1.2.2.2 + 1)), y1.2.2.1, (IntKind.i64.wrap (y1.2.2.2 + 1))))) ∧
                          (¬ ((mTrim (a0.extract y1.2.1.toNat (if (a0.size : Int) < y1.2.2.2 then (a0.size : Int) else y1.2.2.2).toNat)) ≠ (lit [])) →
                            (L0 (y1.1, (IntKind.i64.wrap (y1.2.2.2 + 1)), y1.2.2.1, (IntKind.i64.wrap (y1.2.2.2 + 1)))))) ∧
                        (¬ ((a0.size : Int) ≤ y1.2.2.2) →
                          0 ≤ y1.2.2.2 ∧
                          y1.2.2.2 < (a0.size : Int) ∧
                          ((bt a0 y1.2.2.2) = 44 →
                            (¬ (y1.2.2.1 = true) →
                              0 ≤ y1.2.1 ∧
                              y1.2.1 ≤ (if (a0.size : Int) < y1.2.2.2 then (a0.size : Int) else y1.2.2.2) ∧
                              (if (a0.size : Int) < y1.2.2.2 then (a0.size : Int) else y1.2.2.2) ≤ (a0.size : Int) ∧
                              pTrim (a0.extract y1.2.1.toNat (if (a0.size : Int) < y1.2.2.2 then (a0.size : Int) else y1.2.2.2).toNat) ∧
                              ((mTrim (a0.extract y1.2.1.toNat (if (a0.size : Int) < y1.2.2.2 then (a0.size : Int) else y1.2.2.2).toNat)) ≠ (lit []) →
                                (y1.1.length + [(mTrim (a0.extract y1.2.1.toNat (if (a0.size : Int) < y1.2.2.2 then (a0.size : Int) else y1.2.2.2).toNat))].length) * 16 ≤ 140737488355328 ∧
                                (L0 ((y1.1 ++ [(mTrim (a0.extract y1.2.1.toNat (if (a0.size : Int) < y1.2.2.2 then (a0.size : Int) else y1.2.2.2).toNat))]), (IntKind.i64.wrap (y1.2.2.2 + 1)), y1.2.2.1, (IntKind.i64.wrap (y1.2.2.2 + 1))))) ∧
                              (¬ ((mTrim (a0.extract y1.2.1.toNat (if (a0.size : Int) < y1.2.2.2 then (a0.size : Int) else y1.2.2.2).toNat)) ≠ (lit [])) →
                                (L0 (y1.1, (IntKind.i64.wrap (y1.2.2.2 + 1)), y1.2.2.1, (IntKind.i64.wrap (y1.2.2.2 + 1)))))) ∧
                            (¬ (¬ (y1.2.2.1 = true)) →
                              (L0 (y1.1, y1.2.1, y1.2.2.1, (IntKind.i64.wrap (y1.2.2.2 + 1)))))) ∧
                          (¬ ((bt a0 y1.2.2.2) = 44) →
                            (L0 (y1.1, y1.2.1, y1.2.2.1, (IntKind.i64.wrap (y1.2.2.2 + 1)))))))) ∧
                    (¬ (y1.2.2.1 = true) →
                      ((a0.size : Int) ≤ y1.2.2.2 →
                        0 ≤ y1.2.1 ∧
                        y1.2.1 ≤ (if (a0.size : Int) < y1.2.2.2 then (a0.size : Int) else y1.2.2.2) ∧
                        (if (a0.size : Int) < y1.2.2.2 then (a0.size : Int) else y1.2.2.2) ≤ (a0.size : Int) ∧
                        pTrim (a0.extract y1.2.1.toNat (if (a0.size : Int) < y1.2.2.2 then (a0.size : Int) else y1.2.2.2).toNat) ∧
                        ((mTrim (a0.extract y1.2.1.toNat (if (a0.size : Int) < y1.2.2.2 then (a0.size : Int) else y1.2.2.2).toNat)) ≠ (lit []) →
                          (y1.1.length + [(mTrim (a0.extract y1.2.1.toNat (if (a0.size : Int) < y1.2.2.2 then (a0.size : Int) else y1.2.2.2).toNat))].length) * 16 ≤ 140737488355328 ∧
                          (L0 ((y1.1 ++ [(mTrim (a0.extract y1.2.1.toNat (if (a0.size : Int) < y1.2.2.2 then (a0.size : Int) else y1.2.2.2).toNat))]), (IntKind.i64.wrap (y1.2.2.2 + 1)), y1.2.2.1, (IntKind.i64.wrap (y1.2.2.2 + 1))))) ∧
                        (¬ ((mTrim (a0.extract y1.2.1.toNat (if (a0.size : Int) < y1.2.2.2 then (a0.size : Int) else y1.2.2.2).toNat)) ≠ (lit [])) →
                          (L0 (y1.1, (IntKind.i64.wrap (y1.2.2.2 + 1)), y1.2.2.1, (IntKind.i64.wrap (y1.2.2.2 + 1)))))) ∧
                      (¬ ((a0.size : Int) ≤ y1.2.2.2) →
                        0 ≤ y1.2.2.2 ∧
                        y1.2.2.2 < (a0.size : Int) ∧
                        ((bt a0 y1.2.2.2) = 44 →
                          (¬ (y1.2.2.1 = true) →
                            0 ≤ y1.2.1 ∧
                            y1.2.1 ≤ (if (a0.size : Int) < y1.2.2.2 then (a0.size : Int) else y1.2.2.2) ∧
                            (if (a0.size : Int) < y1.2.2.2 then (a0.size : Int) else y1.2.2.2) ≤ (a0.size : Int) ∧
                            pTrim (a0.extract y1.2.1.toNat (if (a0.size : Int) < y1.2.2.2 then (a0.size : Int) else y1.2.2.2).toNat) ∧
                            ((mTrim (a0.extract y1.2.1.toNat (if (a0.size : Int) < y1.2.2.2 then (a0.size : Int) else y1.2.2.2).toNat)) ≠ (lit []) →
                              (y1.1.length + [(mTrim (a0.extract y1.2.1.toNat (if (a0.size : Int) < y1.2.2.2 then (a0.size : Int) else y1.2.2.2).toNat))].length) * 16 ≤ 140737488355328 ∧
                              (L0 ((y1.1 ++ [(mTrim (a0.extract y1.2.1.toNat (if (a0.size : Int) < y1.2.2.2 then (a0.size : Int) else y1.2.2.2).toNat))]), (IntKind.i64.wrap (y1.2.2.2 + 1)), y1.2.2.1, (IntKind.i64.wrap (y1.2.2.2 + 1))))) ∧
                            (¬ ((mTrim (a0.extract y1.2.1.toNat (if (a0.size : Int) < y1.2.2.2 then (a0.size : Int) else y1.2.2.2).toNat)) ≠ (lit [])) →
                              (L0 (y1.1, (IntKind.i64.wrap (y1.2.2.2 + 1)), y1.2.2.1, (IntKind.i64.wrap (y1.2.2.2 + 1)))))) ∧
                          (¬ (¬ (y1.2.2.1 = true)) →
                            (L0 (y1.1, y1.2.1, y1.2.2.1, (IntKind.i64.wrap (y1.2.2.2 + 1)))))) ∧
                        (¬ ((bt a0 y1.2.2.2) = 44) →
                          (L0 (y1.1, y1.2.1, y1.2.2.1, (IntKind.i64.wrap (y1.2.2.2 + 1)))))))) ∧
                  (¬ (y1.2.2.2 < (a0.size : Int)) →
                    ((a0.size : Int) ≤ y1.2.2.2 →
                      0 ≤ y1.2.1 ∧
                      y1.2.1 ≤ (if (a0.size : Int) < y1.2.2.2 then (a0.size : Int) else y1.2.2.2) ∧
                      (if (a0.size : Int) < y1.2.2.2 then (a0.size : Int) else y1.2.2.2) ≤ (a0.size : Int) ∧
                      pTrim (a0.extract y1.2.1.toNat (if (a0.size : Int) < y1.2.2.2 then (a0.size : Int) else y1.2.2.2).toNat) ∧
                      ((mTrim (a0.extract y1.2.1.toNat (if (a0.size : Int) < y1.2.2.2 then (a0.size : Int) else y1.2.2.2).toNat)) ≠ (lit []) →
                        (y1.1.length + [(mTrim (a0.extract y1.2.1.toNat (if (a0.size : Int) < y1.2.2.2 then (a0.size : Int) else y1.2.2.2).toNat))].length) * 16 ≤ 140737488355328 ∧
                        (L0 ((y1.1 ++ [(mTrim (a0.extract y1.2.1.toNat (if (a0.size : Int) < y1.2.2.2 then (a0.size : Int) else y1.2.2.2).toNat))]), (IntKind.i64.wrap (y1.2.2.2 + 1)), y1.2.2.1, (IntKind.i64.wrap (y1.2.2.2 + 1))))) ∧
                      (¬ ((mTrim (a0.extract y1.2.1.toNat (if (a0.size : Int) < y1.2.2.2 then (a0.size : Int) else y1.2.2.2).toNat)) ≠ (lit [])) →
                        (L0 (y1.1, (IntKind.i64.wrap (y1.2.2.2 + 1)), y1.2.2.1, (IntKind.i64.wrap (y1.2.2.2 + 1)))))) ∧
                    (¬ ((a0.size : Int) ≤ y1.2.2.2) →
                      0 ≤ y1.2.2.2 ∧
                      y1.2.2.2 < (a0.size : Int) ∧
                      ((bt a0 y1.2.2.2) = 44 →
                        (¬ (y1.2.2.1 = true) →
                          0 ≤ y1.2.1 ∧
                          y1.2.1 ≤ (if (a0.size : Int) < y1.2.2.2 then (a0.size : Int) else y1.2.2.2) ∧
                          (if (a0.size : Int) < y1.2.2.2 then (a0.size : Int) else y1.2.2.2) ≤ (a0.size : Int) ∧
                          pTrim (a0.extract y1.2.1.toNat (if (a0.size : Int) < y1.2.2.2 then (a0.size : Int) else y1.2.2.2).toNat) ∧
                          ((mTrim (a0.extract y1.2.1.toNat (if (a0.size : Int) < y1.2.2.2 then (a0.size : Int) else y1.2.2.2).toNat)) ≠ (lit []) →
                            (y1.1.length + [(mTrim (a0.extract y1.2.1.toNat (if (a0.size : Int) < y1.2.2.2 then (a0.size : Int) else y1.2.2.2).toNat))].length) * 16 ≤ 140737488355328 ∧
                            (L0 ((y1.1 ++ [(mTrim (a0.extract y1.2.1.toNat (if (a0.size : Int) < y1.2.2.2 then (a0.size : Int) else y1.2.2.2).toNat))]), (IntKind.i64.wrap (y1.2.2.2 + 1)), y1.2.2.1, (IntKind.i64.wrap (y1.2.2.2 + 1))))) ∧
                          (¬ ((mTrim (a0.extract y1.2.1.toNat (if (a0.size : Int) < y1.2.2.2 then (a0.size : Int) else y1.2.2.2).toNat)) ≠ (lit [])) →
                            (L0 (y1.1, (IntKind.i64.wrap (y1.2.2.2 + 1)), y1.2.2.1, (IntKind.i64.wrap (y1.2.2.2 + 1)))))) ∧
                        (¬ (¬ (y1.2.2.1 = true)) →
                          (L0 (y1.1, y1.2.1, y1.2.2.1, (IntKind.i64.wrap (y1.2.2.2 + 1)))))) ∧
                      (¬ ((bt a0 y1.2.2.2) = 44) →
                        (L0 (y1.1, y1.2.1, y1.2.2.1, (IntKind.i64.wrap (y1.2.2.2 + 1))))))))) ∧
              (¬ (y1.2.2.2 ≤ (a0.size : Int)) →
                (y1.2.1 < (a0.size : Int) →
                  (y1.2.2.1 = true →
                    0 ≤ y1.2.1 ∧
                    y1.2.1 ≤ (a0.size : Int) ∧
                    pTrim (a0.extract y1.2.1.toNat a0.size) ∧
                    ((mTrim (a0.extract y1.2.1.toNat a0.size)) ≠ (lit []) →
                      (y1.1.length + [(mTrim (a0.extract y1.2.1.toNat a0.size))].length) * 16 ≤ 140737488355328 ∧
                      (Q (y1.1 ++ [(mTrim (a0.extract y1.2.1.toNat a0.size))]))) ∧
                    (¬ ((mTrim (a0.extract y1.2.1.toNat a0.size)) ≠ (lit [])) →
                      (Q y1.1))) ∧
                  (¬ (y1.2.2.1 = true) →
                    (Q y1.1))) ∧
                (¬ (y1.2.1 < (a0.size : Int)) →
                  (Q y1.1)))
            ) →
            (L0 y1)))
      ) →
      (L0 ([], 0, false, 0))))

def s_spec_Trim (a0 : S) (Q : (S → Prop)) : Prop :=
  (∀ L0 : (S → Prop),
    ((
        (∀ y1 : S,
          ((
              (0 < (y1.size : Int) →
                (0 : Int) ≤ 0 ∧
                0 < (y1.size : Int) ∧
                pBlank (bt y1 0) ∧
                ((mBlank (bt y1 0)) = true →
                  (0 : Int) ≤ 1 ∧
                  1 ≤ (y1.size : Int) ∧
                  (L0 (y1.extract ((1 : Int).toNat) y1.size))) ∧
                (¬ ((mBlank (bt y1 0)) = true) →
                  (∀ L2 : (S → Prop),
                    ((
                        (∀ y3 : S,
                          ((
                              (0 < (y3.size : Int) →
                                0 ≤ (IntKind.i64.wrap ((y3.size : Int) - 1)) ∧
                                (IntKind.i64.wrap ((y3.size : Int) - 1)) < (y3.size : Int) ∧
                                pBlank (bt y3 (IntKind.i64.wrap ((y3.size : Int) - 1))) ∧
                                ((mBlank (bt y3 (IntKind.i64.wrap ((y3.size : Int) - 1)))) = true →
                                  0 ≤ (IntKind.i64.wrap ((y3.size : Int) - 1)) ∧
                                  (IntKind.i64.wrap ((y3.size : Int) - 1)) ≤ (y3.size : Int) ∧
                                  (L2 (y3.extract 0 (IntKind.i64.wrap ((y3.size : Int) - 1)).toNat))) ∧
                                (¬ ((mBlank (bt y3 (IntKind.i64.wrap ((y3.size : Int) - 1)))) = true) →
                                  (Q y3))) ∧
                              (¬ (0 < (y3.size : Int)) →
                                (Q y3))
                            ) →
                            (L2 y3)))
                      ) →
                      (L2 y1))))) ∧
              (¬ (0 < (y1.size : Int)) →
                (∀ L4 : (S → Prop),
                  ((
                      (∀ y5 : S,
                        ((
                            (0 < (y5.size : Int) →
                              0 ≤ (IntKind.i64.wrap ((y5.size : Int) - 1)) ∧
                              (IntKind.i64.wrap ((y5.size : Int) - 1)) < (y5.size : Int) ∧
                              pBlank (bt y5 (IntKind.i64.wrap ((y5.size : Int) - 1))) ∧
                              ((mBlank (bt y5 (IntKind.i64.wrap ((y5.size : Int) - 1)))) = true →
                                0 ≤ (IntKind.i64.wrap ((y5.size : Int) - 1)) ∧
                                (IntKind.i64.wrap ((y5.size : Int) - 1)) ≤ (y5.size : Int) ∧
                                (L4 (y5.extract 0 (IntKind.i64.wrap ((y5.size : Int) - 1)).toNat))) ∧
                              (¬ ((mBlank (bt y5 (IntKind.i64.wrap ((y5.size : Int) - 1)))) = true) →
                                (Q y5))) ∧
                            (¬ (0 < (y5.size : Int)) →
                              (Q y5))
                          ) →
                          (L4 y5)))
                    ) →
                    (L4 y1))))
            ) →
            (L0 y1)))
      ) →
      (L0 a0)))

def s_spec_l1In (a0 : Int) (a1 : Int) (a2 : Int) (Q : (Bool → Prop)) : Prop :=
  (a1 ≤ a0 →
    (Q (decide (a0 ≤ a2)))) ∧
  (¬ (a1 ≤ a0) →
    (Q false))

def s_spec_l2Blank (a0 : Int) (Q : (Bool → Prop)) : Prop :=
  (a0 = 32 →
    (Q true)) ∧
  (¬ (a0 = 32) →
    (Q (decide (a0 = 9))))

def s_spec_l2Token (a0 : Int) (Q : (Bool → Prop)) : Prop :=
  (97 ≤ a0 →
    (a0 ≤ 122 →
      (Q true)) ∧
    (¬ (a0 ≤ 122) →
      (65 ≤ a0 →
        (a0 ≤ 90 →
          (Q true)) ∧
        (¬ (a0 ≤ 90) →
          (48 ≤ a0 →
            (a0 ≤ 57 →
              (Q true)) ∧
            (¬ (a0 ≤ 57) →
              (a0 = 33 →
                (Q true)) ∧
              (¬ (a0 = 33) →
                (a0 = 35 →
                  (Q true)) ∧
                (¬ (a0 = 35) →
                  (a0 = 36 →
                    (Q true)) ∧
                  (¬ (a0 = 36) →
                    (a0 = 37 →
                      (Q true)) ∧
                    (¬ (a0 = 37) →
                      (a0 = 38 →
                        (Q true)) ∧
                      (¬ (a0 = 38) →
                        (a0 = 39 →
                          (Q true)) ∧
                        (¬ (a0 = 39) →
                          (a0 = 42 →
                            (Q true)) ∧
                          (¬ (a0 = 42) →
                            (a0 = 43 →
                              (Q true)) ∧
                            (¬ (a0 = 43) →
                              (a0 = 45 →
                                (Q true)) ∧
                              (¬ (a0 = 45) →
                                (a0 = 46 →
                                  (Q true)) ∧
                                (¬ (a0 = 46) →
                                  (a0 = 94 →
                                    (Q true)) ∧
                                  (¬ (a0 = 94) →
                                    (a0 = 95 →
                                      (Q true)) ∧
                                    (¬ (a0 = 95) →
                                      (a0 = 96 →
                                        (Q true)) ∧
                                      (¬ (a0 = 96) →
                                        (a0 = 124 →
                                          (Q true)) ∧
                                        (¬ (a0 = 124) →
                                          (Q (decide (a0 = 126))))))))))))))))))) ∧
          (¬ (48 ≤ a0) →
            (a0 = 33 →
              (Q true)) ∧
            (¬ (a0 = 33) →
              (a0 = 35 →
                (Q true)) ∧
              (¬ (a0 = 35) →
                (a0 = 36 →
                  (Q true)) ∧
                (¬ (a0 = 36) →
                  (a0 = 37 →
                    (Q true)) ∧
                  (¬ (a0 = 37) →
                    (a0 = 38 →
                      (Q true)) ∧
                    (¬ (a0 = 38) →
                      (a0 = 39 →
                        (Q true)) ∧
                      (¬ (a0 = 39) →
                        (a0 = 42 →
                          (Q true)) ∧
                        (¬ (a0 = 42) →
                          (a0 = 43 →
                            (Q true)) ∧
                          (¬ (a0 = 43) →
                            (a0 = 45 →
                              (Q true)) ∧
                            (¬ (a0 = 45) →
                              (a0 = 46 →
                                (Q true)) ∧
                              (¬ (a0 = 46) →
                                (a0 = 94 →
                                  (Q true)) ∧
                                (¬ (a0 = 94) →
                                  (a0 = 95 →
                                    (Q true)) ∧
                                  (¬ (a0 = 95) →
                                    (a0 = 96 →
                                      (Q true)) ∧
                                    (¬ (a0 = 96) →
                                      (a0 = 124 →
                                        (Q true)) ∧
                                      (¬ (a0 = 124) →
                                        (Q (decide (a0 = 126)))))))))))))))))))) ∧
      (¬ (65 ≤ a0) →
        (48 ≤ a0 →
          (a0 ≤ 57 →
            (Q true)) ∧
          (¬ (a0 ≤ 57) →
            (a0 = 33 →
              (Q true)) ∧
            (¬ (a0 = 33) →
              (a0 = 35 →
                (Q true)) ∧
              (¬ (a0 = 35) →
                (a0 = 36 →
                  (Q true)) ∧
                (¬ (a0 = 36) →
                  (a0 = 37 →
                    (Q true)) ∧
                  (¬ (a0 = 37) →
                    (a0 = 38 →
                      (Q true)) ∧
                    (¬ (a0 = 38) →
                      (a0 = 39 →
                        (Q true)) ∧
                      (¬ (a0 = 39) →
                        (a0 = 42 →
                          (Q true)) ∧
                        (¬ (a0 = 42) →
                          (a0 = 43 →
                            (Q true)) ∧
                          (¬ (a0 = 43) →
                            (a0 = 45 →
                              (Q true)) ∧
                            (¬ (a0 = 45) →
                              (a0 = 46 →
                                (Q true)) ∧
                              (¬ (a0 = 46) →
                                (a0 = 94 →
                                  (Q true)) ∧
                                (¬ (a0 = 94) →
                                  (a0 = 95 →
                                    (Q true)) ∧
                                  (¬ (a0 = 95) →
                                    (a0 = 96 →
                                      (Q true)) ∧
                                    (¬ (a0 = 96) →
                                      (a0 = 124 →
                                        (Q true)) ∧
                                      (¬ (a0 = 124) →
                                        (Q (decide (a0 = 126))))))))))))))))))) ∧
        (¬ (48 ≤ a0) →
          (a0 = 33 →
            (Q true)) ∧
          (¬ (a0 = 33) →
            (a0 = 35 →
              (Q true)) ∧
            (¬ (a0 = 35) →
              (a0 = 36 →
                (Q true)) ∧
              (¬ (a0 = 36) →
                (a0 = 37 →
                  (Q true)) ∧
                (¬ (a0 = 37) →
                  (a0 = 38 →
                    (Q true)) ∧
                  (¬ (a0 = 38) →
                    (a0 = 39 →
                      (Q true)) ∧
                    (¬ (a0 = 39) →
                      (a0 = 42 →
                        (Q true)) ∧
                      (¬ (a0 = 42) →
                        (a0 = 43 →
                          (Q true)) ∧
                        (¬ (a0 = 43) →
                          (a0 = 45 →
                            (Q true)) ∧
                          (¬ (a0 = 45) →
                            (a0 = 46 →
                              (Q true)) ∧
                            (¬ (a0 = 46) →
                              (a0 = 94 →
                                (Q true)) ∧
                              (¬ (a0 = 94) →
                                (a0 = 95 →
                                  (Q true)) ∧
                                (¬ (a0 = 95) →
                                  (a0 = 96 →
                                    (Q true)) ∧
                                  (¬ (a0 = 96) →
                                    (a0 = 124 →
                                      (Q true)) ∧
                                    (¬ (a0 = 124) →
                                      (Q (decide (a0 = 126))))))))))))))))))))) ∧
  (¬ (97 ≤ a0) →
    (65 ≤ a0 →
      (a0 ≤ 90 →
        (Q true)) ∧
      (¬ (a0 ≤ 90) →
        (48 ≤ a0 →
          (a0 ≤ 57 →
            (Q true)) ∧
          (¬ (a0 ≤ 57) →
            (a0 = 33 →
              (Q true)) ∧
            (¬ (a0 = 33) →
              (a0 = 35 →
                (Q true)) ∧
              (¬ (a0 = 35) →
                (a0 = 36 →
                  (Q true)) ∧
                (¬ (a0 = 36) →
                  (a0 = 37 →
                    (Q true)) ∧
                  (¬ (a0 = 37) →
                    (a0 = 38 →
                      (Q true)) ∧
                    (¬ (a0 = 38) →
                      (a0 = 39 →
                        (Q true)) ∧
                      (¬ (a0 = 39) →
                        (a0 = 42 →
                          (Q true)) ∧
                        (¬ (a0 = 42) →
                          (a0 = 43 →
                            (Q true)) ∧
                          (¬ (a0 = 43) →
                            (a0 = 45 →
                              (Q true)) ∧
                            (¬ (a0 = 45) →
                              (a0 = 46 →
                                (Q true)) ∧
                              (¬ (a0 = 46) →
                                (a0 = 94 →
                                  (Q true)) ∧
                                (¬ (a0 = 94) →
                                  (a0 = 95 →
                                    (Q true)) ∧
                                  (¬ (a0 = 95) →
                                    (a0 = 96 →
                                      (Q true)) ∧
                                    (¬ (a0 = 96) →
                                      (a0 = 124 →
                                        (Q true)) ∧
                                      (¬ (a0 = 124) →
                                        (Q (decide (a0 = 126))))))))))))))))))) ∧
        (¬ (48 ≤ a0) →
          (a0 = 33 →
            (Q true)) ∧
          (¬ (a0 = 33) →
            (a0 = 35 →
              (Q true)) ∧
            (¬ (a0 = 35) →
              (a0 = 36 →
                (Q true)) ∧
              (¬ (a0 = 36) →
                (a0 = 37 →
                  (Q true)) ∧
                (¬ (a0 = 37) →
                  (a0 = 38 →
                    (Q true)) ∧
                  (¬ (a0 = 38) →
                    (a0 = 39 →
                      (Q true)) ∧
                    (¬ (a0 = 39) →
                      (a0 = 42 →
                        (Q true)) ∧
                      (¬ (a0 = 42) →
                        (a0 = 43 →
                          (Q true)) ∧
                        (¬ (a0 = 43) →
                          (a0 = 45 →
                            (Q true)) ∧
                          (¬ (a0 = 45) →
                            (a0 = 46 →
                              (Q true)) ∧
                            (¬ (a0 = 46) →
                              (a0 = 94 →
                                (Q true)) ∧
                              (¬ (a0 = 94) →
                                (a0 = 95 →
                                  (Q true)) ∧
                                (¬ (a0 = 95) →
                                  (a0 = 96 →
                                    (Q true)) ∧
                                  (¬ (a0 = 96) →
                                    (a0 = 124 →
                                      (Q true)) ∧
                                    (¬ (a0 = 124) →
                                      (Q (decide (a0 = 126)))))))))))))))))))) ∧
    (¬ (65 ≤ a0) →
      (48 ≤ a0 →
        (a0 ≤ 57 →
          (Q true)) ∧
        (¬ (a0 ≤ 57) →
          (a0 = 33 →
            (Q true)) ∧
          (¬ (a0 = 33) →
            (a0 = 35 →
              (Q true)) ∧
            (¬ (a0 = 35) →
              (a0 = 36 →
                (Q true)) ∧
              (¬ (a0 = 36) →
                (a0 = 37 →
                  (Q true)) ∧
                (¬ (a0 = 37) →
                  (a0 = 38 →
                    (Q true)) ∧
                  (¬ (a0 = 38) →
                    (a0 = 39 →
                      (Q true)) ∧
                    (¬ (a0 = 39) →
                      (a0 = 42 →
                        (Q true)) ∧
                      (¬ (a0 = 42) →
                        (a0 = 43 →
                          (Q true)) ∧
                        (¬ (a0 = 43) →
                          (a0 = 45 →
                            (Q true)) ∧
                          (¬ (a0 = 45) →
                            (a0 = 46 →
                              (Q true)) ∧
                            (¬ (a0 = 46) →
                              (a0 = 94 →
                                (Q true)) ∧
                              (¬ (a0 = 94) →
                                (a0 = 95 →
                                  (Q true)) ∧
                                (¬ (a0 = 95) →
                                  (a0 = 96 →
                                    (Q true)) ∧
                                  (¬ (a0 = 96) →
                                    (a0 = 124 →
                                      (Q true)) ∧
                                    (¬ (a0 = 124) →
                                      (Q (decide (a0 = 126))))))))))))))))))) ∧
      (¬ (48 ≤ a0) →
        (a0 = 33 →
          (Q true)) ∧
        (¬ (a0 = 33) →
          (a0 = 35 →
            (Q true)) ∧
          (¬ (a0 = 35) →
            (a0 = 36 →
              (Q true)) ∧
            (¬ (a0 = 36) →
              (a0 = 37 →
                (Q true)) ∧
              (¬ (a0 = 37) →
                (a0 = 38 →
                  (Q true)) ∧
                (¬ (a0 = 38) →
                  (a0 = 39 →
                    (Q true)) ∧
                  (¬ (a0 = 39) →
                    (a0 = 42 →
                      (Q true)) ∧
                    (¬ (a0 = 42) →
                      (a0 = 43 →
                        (Q true)) ∧
                      (¬ (a0 = 43) →
                        (a0 = 45 →
                          (Q true)) ∧
                        (¬ (a0 = 45) →
                          (a0 = 46 →
                            (Q true)) ∧
                          (¬ (a0 = 46) →
                            (a0 = 94 →
                              (Q true)) ∧
                            (¬ (a0 = 94) →
                              (a0 = 95 →
                                (Q true)) ∧
                              (¬ (a0 = 95) →
                                (a0 = 96 →
                                  (Q true)) ∧
                                (¬ (a0 = 96) →
                                  (a0 = 124 →
                                    (Q true)) ∧
                                  (¬ (a0 = 124) →
                                    (Q (decide (a0 = 126))))))))))))))))))))

def s_spec_l7Unquote (a0 : S) (Q : (S → Prop)) : Prop :=
  (2 ≤ (a0.size : Int) →
    (0 : Int) ≤ 0 ∧
    0 < (a0.size : Int) ∧
    ((bt a0 0) = 34 →
      0 ≤ (IntKind.i64.wrap ((a0.size : Int) - 1)) ∧
      (IntKind.i64.wrap ((a0.size : Int) - 1)) < (a0.size : Int) ∧
      ((bt a0 (IntKind.i64.wrap ((a0.size : Int) - 1))) = 34 →
        (0 : Int) ≤ 1 ∧
        1 ≤ (IntKind.i64.wrap ((a0.size : Int) - 1)) ∧
        (IntKind.i64.wrap ((a0.size : Int) - 1)) ≤ (a0.size : Int) ∧
        (Q (a0.extract ((1 : Int).toNat) (IntKind.i64.wrap ((a0.size : Int) - 1)).toNat))) ∧
      (¬ ((bt a0 (IntKind.i64.wrap ((a0.size : Int) - 1))) = 34) →
        (Q a0))) ∧
    (¬ ((bt a0 0) = 34) →
      (Q a0))) ∧
  (¬ (2 ≤ (a0.size : Int)) →
    (Q a0))

end Go.Ev
end

section
/- Laws of the plain library: what the functions come to is what they compute. First part: small ones. -/
set_option linter.unusedVariables false
namespace Go.Ev

theorem spec_l1In_ok (a0 a1 a2 : Int) : s_spec_l1In a0 a1 a2 (fun r => r = mIn a0 a1 a2) := by
  unfold s_spec_l1In mIn; grind
theorem impl_in_ok (a0 a1 a2 : Int) : s_impl_in a0 a1 a2 (fun r => r = mIn a0 a1 a2) := by
  unfold s_impl_in mIn; grind
theorem spec_l2Blank_ok (a0 : Int) : s_spec_l2Blank a0 (fun r => r = mBlank a0) := by
  unfold s_spec_l2Blank mBlank; grind
theorem impl_isLetterOrDigit_ok (a0 : Int) : s_impl_isLetterOrDigit a0 (fun r => r = mIsLetterOrDigit a0) := by
  unfold s_impl_isLetterOrDigit mIsLetterOrDigit
  (repeat' first | apply And.intro | intro _) <;> grind
theorem spec_l2Token_ok (a0 : Int) : s_spec_l2Token a0 (fun r => r = mToken a0) := by
  unfold s_spec_l2Token mToken mIsLetterOrDigit tokenSigns
  simp only [List.any_cons, List.any_nil]
  (repeat' first | apply And.intro | intro _) <;> simp only [*, decide_true, decide_false, Bool.and_true, Bool.true_or, Bool.or_true, Bool.false_or, Bool.or_false, Bool.and_false, Bool.false_and, Bool.true_and]
theorem impl_hasField_ok (a0 : List Fld) (a1 : S) (h : pHasField a0 a1) : s_impl_hasField a0 a1 (fun r => r = mHasField a0 a1) := ⟨h, rfl⟩
theorem spec_l7Unquote_ok (a0 : S) (h : pL7Unquote a0) : s_spec_l7Unquote a0 (fun r => r = mL7Unquote a0) := by
  unfold pL7Unquote sm at h
  have hw : 2 ≤ (a0.size : Int) → IntKind.i64.wrap ((a0.size : Int) - 1) = (a0.size : Int) - 1 := fun h2 => wrap64 (by omega) (by omega)
  unfold s_spec_l7Unquote mL7Unquote
  refine ⟨fun h2 => ?_, fun h2 => ?_⟩
  · rw [hw h2]
    have ht : ((a0.size : Int) - 1).toNat = a0.size - 1 := by omega
    rw [ht]
    grind
  · grind
theorem impl_Trim_ok (a0 : S) (h : pTrim a0) : s_impl_Trim a0 (fun r => r = mTrim a0) := ⟨⟨h, rfl⟩, rfl⟩
end Go.Ev
end

section
/- Laws of the plain library: numerals. -/
set_option linter.unusedVariables false
namespace Go.Ev
def decLeft (n : Int) : List UInt8 := if n = 0 then [] else Lib.decDigits n.natAbs
theorem td10 (n : Int) : (0 ≤ n ∧ n.tdiv 10 = n / 10 ∧ n.tmod 10 = n % 10) ∨ (n < 0 ∧ n.tdiv 10 = -((-n) / 10) ∧ n.tmod 10 = -((-n) % 10)) := by
  rcases Int.le_total 0 n with h | h
  · exact Or.inl ⟨h, Int.tdiv_eq_ediv_of_nonneg h, Int.tmod_eq_emod_of_nonneg h⟩
  · by_cases h0 : n = 0
    · subst h0; exact Or.inl ⟨by omega, rfl, rfl⟩
    · refine Or.inr ⟨by omega, ?_, ?_⟩
      · rw [← Int.tdiv_eq_ediv_of_nonneg (by omega), Int.neg_tdiv, Int.neg_neg]
      · rw [← Int.tmod_eq_emod_of_nonneg (by omega), Int.neg_tmod, Int.neg_neg]
theorem decLeft_step {n : Int} (h : n ≠ 0) : decLeft n = decLeft (n.tdiv 10) ++ [UInt8.ofNat (48 + n.natAbs % 10)] := by
  have e : (n.tdiv 10).natAbs = n.natAbs / 10 := by rw [Int.natAbs_tdiv]; rfl
  have ht := td10 n
  unfold decLeft
  rw [if_neg h]
  by_cases h1 : n.natAbs < 10
  · have : n.tdiv 10 = 0 := by omega
    rw [if_pos this, Lib.decDigits_one h1, Nat.mod_eq_of_lt h1]; rfl
  · have : n.tdiv 10 ≠ 0 := by omega
    rw [if_neg this, e, Lib.decDigits, dif_neg h1]
theorem digit_neg {n : Int} (h0 : in64 n) (h : n.tmod 10 < 0) : strOf [IntKind.u8.wrap (IntKind.i64.wrap (48 + IntKind.i64.wrap (0 - n.tmod 10)))] = ob [UInt8.ofNat (48 + n.natAbs % 10)] := by
  obtain ⟨ha, hb⟩ := h0
  have ht := td10 n
  have e1 : IntKind.i64.wrap (0 - n.tmod 10) = ((n.natAbs % 10 : Nat) : Int) := by rw [wrap64 (by omega) (by omega)]; omega
  have e2 : IntKind.i64.wrap (48 + ((n.natAbs % 10 : Nat) : Int)) = ((48 + n.natAbs % 10 : Nat) : Int) := by rw [wrap64 (by omega) (by omega)]; omega
  have hlt : n.natAbs % 10 < 10 := Nat.mod_lt _ (by decide)
  rw [e1, e2]
  generalize n.natAbs % 10 = k at hlt
  have : ∀ k : Fin 10, strOf [IntKind.u8.wrap ((48 + k.val : Nat) : Int)] = ob [UInt8.ofNat (48 + k.val)] := by decide +kernel
  exact this ⟨k, hlt⟩
theorem digit_pos {n : Int} (h0 : in64 n) (h : ¬ n.tmod 10 < 0) : strOf [IntKind.u8.wrap (IntKind.i64.wrap (48 + n.tmod 10))] = ob [UInt8.ofNat (48 + n.natAbs % 10)] := by
  obtain ⟨ha, hb⟩ := h0
  have ht := td10 n
  have e2 : IntKind.i64.wrap (48 + n.tmod 10) = ((48 + n.natAbs % 10 : Nat) : Int) := by rw [wrap64 (by omega) (by omega)]; omega
  have hlt : n.natAbs % 10 < 10 := Nat.mod_lt _ (by decide)
  rw [e2]
  generalize n.natAbs % 10 = k at hlt
  have : ∀ k : Fin 10, strOf [IntKind.u8.wrap ((48 + k.val : Nat) : Int)] = ob [UInt8.ofNat (48 + k.val)] := by decide +kernel
  exact this ⟨k, hlt⟩
theorem spec_Dec_ok (a0 : Int) (h : pDec a0) : s_spec_Dec a0 (fun r => r = mDec a0) := by
  obtain ⟨ha, hb⟩ := h
  have hlen := Lib.itoa_length_le a0 ha hb
  refine ⟨fun h0 => by subst h0; exact bs_inj (by decide +kernel), fun h0 => fun L hL => ?_⟩
  refine loopI hL (fun y => in64 y.1 ∧ (0 ≤ a0 → 0 ≤ y.1) ∧ (a0 < 0 → y.1 ≤ 0) ∧ decLeft y.1 ++ bs y.2 = Lib.decDigits a0.natAbs) (fun y => y.1.natAbs) (fun y hI ih => ?_) (a0, lit []) ⟨⟨ha, hb⟩, fun h => h, fun h => by omega, by unfold decLeft; rw [if_neg h0, bs_lit]; simp⟩
  obtain ⟨n, s⟩ := y
  obtain ⟨h64, hp, hn, he⟩ := hI
  simp only at h64 hp hn he ⊢
  have hl : (Lib.decDigits a0.natAbs).length ≤ 21 := by
    unfold Lib.itoa at hlen
    split at hlen
    · simp only [List.length_cons] at hlen; omega
    · rw [show a0.toNat = a0.natAbs by omega] at hlen; exact hlen
  have hs : s.size ≤ 21 := by rw [← bs_len]; rw [← he, List.length_append] at hl; omega
  have ht := td10 n
  have d64 : in64 (n.tdiv 10) := by obtain ⟨a, b⟩ := h64; constructor <;> omega
  have wd : IntKind.i64.wrap (n.tdiv 10) = n.tdiv 10 := wrap64 (by have := d64.1; omega) (by have := d64.2; omega)
  have next : n ≠ 0 → L (n.tdiv 10, ob [UInt8.ofNat (48 + n.natAbs % 10)] ++ s) := fun hne => by
    refine ih _ ⟨d64, fun h => ?_, fun h => ?_, ?_⟩ ?_
    · have := hp h; simp only; omega
    · have := hn h; simp only; omega
    · simp only
      rw [bs_append, bs_ob, ← List.append_assoc, ← decLeft_step hne, he]
    · simp only; omega
  have h1 : (ob [UInt8.ofNat (48 + n.natAbs % 10)]).size = 1 := ob_size _
  have h2 : (lit [45]).size = 1 := rfl
  rw [wd]
  refine ⟨fun hne => ⟨by decide, fun hneg => ?_, fun hneg => ?_⟩, fun heq => ?_⟩
  · rw [digit_neg h64 hneg, h1]; exact ⟨by omega, by decide, next hne⟩
  · rw [digit_pos h64 hneg, h1]; exact ⟨by omega, by decide, next hne⟩
  · have h00 : n = 0 := Classical.byContradiction heq
    subst h00
    have he : bs s = Lib.decDigits a0.natAbs := by simpa [decLeft] using he
    refine ⟨fun hneg => ⟨by rw [h2]; omega, bs_inj ?_⟩, fun hneg => bs_inj ?_⟩
    · rw [bs_append, he, mDec, mItoa, bs_ob, Lib.itoa, if_pos hneg]; rfl
    · rw [he, mDec, mItoa, bs_ob, Lib.itoa, if_neg hneg, show a0.toNat = a0.natAbs by omega]
end Go.Ev
end

section
/- Laws of the plain library: days, texts of dates. -/
set_option linter.unusedVariables false
namespace Go.Ev
theorem leap_iff (y : Int) (h : 0 ≤ y) : mIsLeap y = true ↔ y.tmod 4 = 0 ∧ (y.tmod 100 ≠ 0 ∨ y.tmod 400 = 0) := by
  rw [tmodI h, tmodI h, tmodI h]
  unfold mIsLeap
  simp
theorem leap_no {y : Int} (h : ¬ (mIsLeap y = true)) : false = mIsLeap y := by cases hh : mIsLeap y <;> simp_all
theorem spec_IsLeap_ok (a0 : Int) (h : pIsLeap a0) : s_spec_IsLeap a0 (fun r => r = mIsLeap a0) := by
  have hi := leap_iff a0 h
  refine ⟨by decide, fun h4 => ⟨by decide, fun h1 => (hi.2 ⟨h4, .inl h1⟩).symm, fun h1 => ⟨by decide, ?_⟩⟩, fun h4 => leap_no fun hh => h4 (hi.1 hh).1⟩
  by_cases hq : a0.tmod 400 = 0
  · simp only [hq, decide_true]; exact (hi.2 ⟨h4, .inr hq⟩).symm
  · simp only [hq, decide_false]; exact leap_no fun hh => (hi.1 hh).2.elim h1 hq
theorem impl_IsLeap_ok (a0 : Int) (h : pIsLeap a0) : s_impl_IsLeap a0 (fun r => r = mIsLeap a0) := by
  have hi := leap_iff a0 h
  have h44 : a0.tmod 400 = 0 → a0.tmod 4 = 0 := by
    have hp : 0 ≤ a0 := h
    rw [tmodI hp, tmodI hp]; omega
  have key : (a0.tmod 4 = 0 → ¬ a0.tmod 100 ≠ 0 ∨ True) → (decide (a0.tmod 400 = 0) = true ↔ a0.tmod 400 = 0) := fun _ => decide_eq_true_iff
  refine ⟨by decide, fun h4 => ⟨by decide, fun h1 => (hi.2 ⟨h4, .inl h1⟩).symm, fun h1 => ⟨by decide, ?_⟩⟩, fun h4 => ⟨by decide, ?_⟩⟩
  · by_cases hq : a0.tmod 400 = 0
    · simp only [hq, decide_true]; exact (hi.2 ⟨h4, .inr hq⟩).symm
    · simp only [hq, decide_false]; exact leap_no fun hh => (hi.1 hh).2.elim h1 hq
  · have hq : ¬ a0.tmod 400 = 0 := fun hq => h4 (h44 hq)
    simp only [hq, decide_false]; exact leap_no fun hh => h4 (hi.1 hh).1
theorem spec_l4Months_ok (a0 : Int) (h : pL4Months a0) : s_spec_l4Months a0 (fun r => r = mL4Months a0) :=
  ⟨h, fun hl => by unfold mL4Months; rw [if_pos hl], fun hl => by unfold mL4Months; rw [if_neg hl]⟩
theorem impl_yearDays_ok (a0 : Int) (h : pYearDays a0) : s_impl_yearDays a0 (fun r => r = mYearDays a0) :=
  ⟨h, fun hl => by unfold mYearDays; rw [if_pos hl], fun hl => by unfold mYearDays; rw [if_neg hl]⟩
theorem monthDays_other : ∀ (b : Bool) (m : Fin 12), (m.val ≠ 1 → rx (monthsB b) ((m.val : Nat) : Int) = rx ([31, 28, 31, 30, 31, 30, 31, 31, 30, 31, 30, 31] : List Int) ((m.val : Nat) : Int)) ∧ rx (monthsB true) 1 = 29 ∧ rx (monthsB false) ((m.val : Nat) : Int) = rx ([31, 28, 31, 30, 31, 30, 31, 31, 30, 31, 30, 31] : List Int) ((m.val : Nat) : Int) := by decide +kernel
theorem impl_monthDays_ok (a0 a1 : Int) (h : pMonthDays a0 a1) : s_impl_monthDays a0 a1 (fun r => r = mMonthDays a0 a1) := by
  obtain ⟨h0, h1, h2⟩ := h
  have w : IntKind.i64.wrap (a1 - 1) = a1 - 1 := wrap64 (by omega) (by omega)
  obtain ⟨t1, t2, t3⟩ := monthDays_other (mIsLeap a0) ⟨(a1 - 1).toNat, by omega⟩
  simp only at t1 t3
  rw [show (((a1 - 1).toNat : Nat) : Int) = a1 - 1 by omega] at t1 t3
  have e : mMonthDays a0 a1 = rx (monthsB (mIsLeap a0)) (a1 - 1) := rfl
  unfold s_impl_monthDays
  rw [w, e]
  refine ⟨fun h2' => ⟨h0, fun hl => ?_, fun hl => ⟨by omega, by simp; omega, ?_⟩⟩, fun h2' => ⟨by omega, by simp; omega, ?_⟩⟩
  · rw [hl, h2']; exact t2.symm
  · rw [show mIsLeap a0 = false by cases hh : mIsLeap a0 <;> simp_all]; exact t3.symm
  · exact (t1 (by omega)).symm
theorem in_iff {n lo hi : Int} : mIn n lo hi = true ↔ lo ≤ n ∧ n ≤ hi := by unfold mIn; simp
theorem daysOf_no {y m d : Int} (h : ¬ (mIn y 1970 2037 = true ∧ mIn m 1 12 = true ∧ mIn d 1 (mMonthDays y m) = true)) : -1 = mDaysOf y m d := by
  unfold mDaysOf
  rw [if_neg]
  simp only [Bool.and_eq_true]
  exact fun hh => h ⟨hh.1.1, hh.1.2, hh.2⟩
theorem daysOf_yes {y m d : Int} (h1 : mIn y 1970 2037 = true) (h2 : mIn m 1 12 = true) (h3 : mIn d 1 (mMonthDays y m) = true) : d - 1 + daysY (y - 1970).toNat + daysM y (m - 1).toNat = mDaysOf y m d := by
  unfold mDaysOf
  rw [if_pos (by simp only [Bool.and_eq_true]; exact ⟨⟨h1, h2⟩, h3⟩)]
theorem impl_DaysOf_ok (a0 a1 a2 : Int) (h0 : pDaysOf a0 a1 a2) : s_impl_DaysOf a0 a1 a2 (fun r => r = mDaysOf a0 a1 a2) := by
  refine ⟨trivial, fun hn => daysOf_no fun hh => hn hh.1, fun hy => ⟨trivial, fun hn => daysOf_no fun hh => hn hh.2.1, fun hm => ?_⟩⟩
  have hy := Classical.not_not.1 hy
  have hm := Classical.not_not.1 hm
  have iy := in_iff.1 hy
  have im := in_iff.1 hm
  refine ⟨⟨by omega, im.1, im.2⟩, trivial, fun hn => daysOf_no fun hh => hn hh.2.2, fun hd => ?_⟩
  have hd := Classical.not_not.1 hd
  have id := in_iff.1 hd
  have hr := monthDays_range a0 im.1 im.2
  rw [← daysOf_yes hy hm hd]
  have w0 : IntKind.i64.wrap (a2 - 1) = a2 - 1 := wrap64 (by omega) (by omega)
  rw [w0]
  intro L hL
  refine loopI hL (fun z => ∃ i : Nat, (i : Int) ≤ a0 - 1970 ∧ z.2 = 1970 + (i : Int) ∧ z.1 = a2 - 1 + daysY i) (fun z => (a0 - z.2).toNat) (fun z hI ih => ?_) (a2 - 1, 1970) ⟨0, by omega, by simp, by simp [daysY]⟩
  obtain ⟨n, y⟩ := z
  obtain ⟨i, hi, hz2, hz1⟩ := hI
  simp only at hz1 hz2 ⊢
  subst hz1 hz2
  have ry := daysY_range i
  have ryd := yearDays_range (1970 + (i : Int))
  refine ⟨fun hlt => ⟨show 0 ≤ 1970 + (i : Int) by omega, ?_⟩, fun hge => ?_⟩
  · have w1 : IntKind.i64.wrap (a2 - 1 + daysY i + mYearDays (1970 + (i : Int))) = a2 - 1 + daysY (i + 1) := by rw [wrap64 (by omega) (by omega)]; simp only [daysY]; omega
    have w2 : IntKind.i64.wrap (1970 + (i : Int) + 1) = 1970 + ((i + 1 : Nat) : Int) := by rw [wrap64 (by omega) (by omega)]; omega
    rw [w1, w2]
    exact ih _ ⟨i + 1, by omega, rfl, rfl⟩ (by simp only; omega)
  · have hie : (a0 - 1970).toNat = i := by omega
    rw [hie]
    intro L2 hL2
    refine loopI hL2 (fun z => ∃ k : Nat, (k : Int) ≤ a1 - 1 ∧ z.2 = 1 + (k : Int) ∧ z.1 = a2 - 1 + daysY i + daysM a0 k) (fun z => (a1 - z.2).toNat) (fun z hK ik => ?_) (a2 - 1 + daysY i, 1) ⟨0, by omega, by simp, by simp [daysM]⟩
    obtain ⟨n, m⟩ := z
    obtain ⟨k, hk, hz2, hz1⟩ := hK
    simp only at hz1 hz2 ⊢
    subst hz1 hz2
    have rm := daysM_range a0 k (by omega)
    refine ⟨fun hlt => ⟨⟨by omega, by omega, by omega⟩, ?_⟩, fun hge => ?_⟩
    · have rmd := monthDays_range a0 (m := (k : Int) + 1) (by omega) (by omega)
      have w1 : IntKind.i64.wrap (a2 - 1 + daysY i + daysM a0 k + mMonthDays a0 (1 + (k : Int))) = a2 - 1 + daysY i + daysM a0 (k + 1) := by
        rw [show 1 + (k : Int) = (k : Int) + 1 by omega, wrap64 (by omega) (by omega)]; simp only [daysM]; omega
      have w2 : IntKind.i64.wrap (1 + (k : Int) + 1) = 1 + ((k + 1 : Nat) : Int) := by rw [wrap64 (by omega) (by omega)]; omega
      rw [w1, w2]
      exact ik _ ⟨k + 1, by omega, rfl, rfl⟩ (by simp only; omega)
    · have hke : (a1 - 1).toNat = k := by omega
      rw [hke]
theorem spec_DaysOf_ok (a0 a1 a2 : Int) (h0 : pDaysOf a0 a1 a2) : s_spec_DaysOf a0 a1 a2 (fun r => r = mDaysOf a0 a1 a2) := by
  refine ⟨trivial, fun hn => daysOf_no fun hh => hn hh.1, fun hy => ⟨trivial, fun hn => daysOf_no fun hh => hn hh.2.1, fun hm => ?_⟩⟩
  have hy := Classical.not_not.1 hy
  have hm := Classical.not_not.1 hm
  have iy := in_iff.1 hy
  have im := in_iff.1 hm
  have wm : IntKind.i64.wrap (a1 - 1) = a1 - 1 := wrap64 (by omega) (by omega)
  rw [wm]
  have ml := months_len a0
  refine ⟨show 0 ≤ a0 by omega, by omega, by omega, trivial, fun hn => daysOf_no fun hh => hn hh.2.2, fun hd => ?_⟩
  have hd : mIn a2 1 (mMonthDays a0 a1) = true := Classical.not_not.1 hd
  have id := in_iff.1 hd
  have hr := monthDays_range a0 im.1 im.2
  rw [← daysOf_yes hy hm hd]
  have w0 : IntKind.i64.wrap (a2 - 1) = a2 - 1 := wrap64 (by omega) (by omega)
  rw [w0]
  intro L hL
  refine loopI hL (fun z => ∃ i : Nat, (i : Int) ≤ a0 - 1970 ∧ z.2 = 1970 + (i : Int) ∧ z.1 = a2 - 1 + daysY i) (fun z => (a0 - z.2).toNat) (fun z hI ih => ?_) (a2 - 1, 1970) ⟨0, by omega, by simp, by simp [daysY]⟩
  obtain ⟨n, y⟩ := z
  obtain ⟨i, hi, hz2, hz1⟩ := hI
  simp only at hz1 hz2 ⊢
  subst hz1 hz2
  have ry := daysY_range i
  have ryd := yearDays_range (1970 + (i : Int))
  have w2 : IntKind.i64.wrap (1970 + (i : Int) + 1) = 1970 + ((i + 1 : Nat) : Int) ∨ ¬ (1970 + (i : Int) < a0) := by
    by_cases hlt : 1970 + (i : Int) < a0
    · left; rw [wrap64 (by omega) (by omega)]; omega
    · exact .inr hlt
  refine ⟨fun hlt => ⟨show 0 ≤ 1970 + (i : Int) by omega, fun hl => ?_, fun hl => ?_⟩, fun hge => ?_⟩
  · have w1 : IntKind.i64.wrap (IntKind.i64.wrap (a2 - 1 + daysY i + 365) + 1) = a2 - 1 + daysY (i + 1) := by
      have e : mYearDays (1970 + (i : Int)) = 366 := by unfold mYearDays; rw [if_pos hl]
      rw [wrap64 (n := a2 - 1 + daysY i + 365) (by omega) (by omega), wrap64 (by omega) (by omega)]; simp only [daysY, e]; omega
    rw [w1, w2.resolve_right (fun h => h hlt)]
    exact ih _ ⟨i + 1, by omega, rfl, rfl⟩ (by simp only; omega)
  · have w1 : IntKind.i64.wrap (a2 - 1 + daysY i + 365) = a2 - 1 + daysY (i + 1) := by
      have e : mYearDays (1970 + (i : Int)) = 365 := by unfold mYearDays; rw [if_neg hl]
      rw [wrap64 (by omega) (by omega)]; simp only [daysY, e]; omega
    rw [w1, w2.resolve_right (fun h => h hlt)]
    exact ih _ ⟨i + 1, by omega, rfl, rfl⟩ (by simp only; omega)
  · have hie : (a0 - 1970).toNat = i := by omega
    rw [hie]
    intro L2 hL2
    refine loopI hL2 (fun z => ∃ k : Nat, (k : Int) ≤ a1 - 1 ∧ z.2 = 1 + (k : Int) ∧ z.1 = a2 - 1 + daysY i + daysM a0 k) (fun z => (a1 - z.2).toNat) (fun z hK ik => ?_) (a2 - 1 + daysY i, 1) ⟨0, by omega, by simp, by simp [daysM]⟩
    obtain ⟨n, m⟩ := z
    obtain ⟨k, hk, hz2, hz1⟩ := hK
    simp only at hz1 hz2 ⊢
    subst hz1 hz2
    have rm := daysM_range a0 k (by omega)
    refine ⟨fun hlt => ?_, fun hge => ?_⟩
    · have rmd := monthDays_range a0 (m := (k : Int) + 1) (by omega) (by omega)
      have wk : IntKind.i64.wrap (1 + (k : Int) - 1) = (k : Int) := by rw [wrap64 (by omega) (by omega)]; omega
      rw [wk]
      have ek : rx (mL4Months a0) (k : Int) = mMonthDays a0 ((k : Int) + 1) := by unfold mMonthDays; rw [show (k : Int) + 1 - 1 = (k : Int) by omega]
      rw [ek]
      refine ⟨show 0 ≤ a0 by omega, by omega, by omega, ?_⟩
      have w1 : IntKind.i64.wrap (a2 - 1 + daysY i + daysM a0 k + mMonthDays a0 ((k : Int) + 1)) = a2 - 1 + daysY i + daysM a0 (k + 1) := by
        rw [wrap64 (by omega) (by omega)]; simp only [daysM]; omega
      have w3 : IntKind.i64.wrap (1 + (k : Int) + 1) = 1 + ((k + 1 : Nat) : Int) := by rw [wrap64 (by omega) (by omega)]; omega
      rw [w1, w3]
      exact ik _ ⟨k + 1, by omega, rfl, rfl⟩ (by simp only; omega)
    · have hke : (a1 - 1).toNat = k := by omega
      rw [hke]
theorem impl_months_ok : s_impl_months (fun r => r = mMonths ()) := rfl
theorem two_tab : ∀ k : Fin 100, (mItoa (IntKind.i64.wrap (100 + ((k.val : Nat) : Int)))).size = 3 ∧ (mItoa (IntKind.i64.wrap (100 + ((k.val : Nat) : Int)))).extract 1 (mItoa (IntKind.i64.wrap (100 + ((k.val : Nat) : Int)))).size = mTwo ((k.val : Nat) : Int) ∧
    strOf [IntKind.u8.wrap (IntKind.i64.wrap (48 + (IntKind.i64.wrap (((k.val : Nat) : Int).tdiv 10)).tmod 10)), IntKind.u8.wrap (IntKind.i64.wrap (48 + ((k.val : Nat) : Int).tmod 10))] = mTwo ((k.val : Nat) : Int) := by decide +kernel
theorem impl_two_ok (a0 : Int) (h : pTwo a0) : s_impl_two a0 (fun r => r = mTwo a0) := by
  obtain ⟨h0, h1⟩ := h
  obtain ⟨t1, t2, _⟩ := two_tab ⟨a0.toNat, by omega⟩
  simp only at t1 t2
  rw [show ((a0.toNat : Nat) : Int) = a0 by omega] at t1 t2
  refine ⟨?_, by omega, by rw [t1]; decide, t2⟩
  rw [wrap64 (by omega) (by omega)]
  exact ⟨by omega, by omega⟩
theorem spec_l4Two_ok (a0 : Int) (h : pL4Two a0) : s_spec_l4Two a0 (fun r => r = mL4Two a0) := by
  obtain ⟨h0, h1⟩ := h
  obtain ⟨_, _, t3⟩ := two_tab ⟨a0.toNat, by omega⟩
  simp only at t3
  rw [show ((a0.toNat : Nat) : Int) = a0 by omega] at t3
  exact ⟨by decide, by decide, by decide, t3⟩
end Go.Ev
end

section
/- Laws of the plain library: texts of moments. -/
set_option linter.unusedVariables false
namespace Go.Ev
theorem week_tab : ∀ i : Fin 7, (rx weekL ((i.val : Nat) : Int)).size = 3 := by decide +kernel
theorem month_tab : ∀ i : Fin 12, (rx monthL ((i.val : Nat) : Int)).size = 3 := by decide +kernel
theorem week_size {i : Int} (h0 : 0 ≤ i) (h1 : i < 7) : (rx weekL i).size = 3 := by
  have := week_tab ⟨i.toNat, by omega⟩
  simp only at this
  rwa [show ((i.toNat : Nat) : Int) = i by omega] at this
theorem month_size {i : Int} (h0 : 0 ≤ i) (h1 : i < 12) : (rx monthL i).size = 3 := by
  have := month_tab ⟨i.toNat, by omega⟩
  simp only at this
  rwa [show ((i.toNat : Nat) : Int) = i by omega] at this
theorem two_size (n : Int) : (mTwo n).size = 2 := rfl
theorem decS_le (n : Int) (h : pDec n) : (mDec n).size ≤ 21 := by
  unfold mDec mItoa
  rw [ob_size]
  exact Lib.itoa_length_le n h.1 h.2
theorem lit_size (l : List Nat) : (lit l).size = l.length := by unfold lit; simp [ByteArray.size]
theorem showDate_no {a : Int} (h : ¬ (0 ≤ a ∧ a ≤ 2000000000)) : lit [] = mShowDate a := by
  unfold mShowDate
  rw [dif_neg fun hh => h ⟨hh.1, hh.2.1⟩]
theorem impl_ShowDate_ok (a0 : Int) (h : pShowDate a0) : s_impl_ShowDate a0 (fun r => r = mShowDate a0) := by
  refine ⟨trivial, fun hn => showDate_no fun hh => hn (in_iff.2 hh), fun hy => ?_⟩
  have hr := in_iff.1 (Classical.not_not.1 hy)
  have e1 : IntKind.i64.wrap (a0.tdiv 86400) = a0 / 86400 := by rw [tdivI hr.1, wrap64 (by omega) (by omega)]
  have e2 : (a0 / 86400).tmod 7 = a0 / 86400 % 7 := tmodI (by omega)
  have hW := week_size (i := a0 / 86400 % 7) (by omega) (by omega)
  have e3 : IntKind.i64.wrap ((a0.tmod 86400).tdiv 3600) = a0 / 3600 % 24 := by rw [tmodI hr.1, tdivI (by omega), wrap64 (by omega) (by omega)]; omega
  have e4 : (IntKind.i64.wrap ((a0.tmod 86400).tdiv 60)).tmod 60 = a0 / 60 % 60 := by rw [tmodI hr.1, tdivI (by omega), wrap64 (by omega) (by omega), tmodI (by omega)]; omega
  have e5 : (a0.tmod 86400).tmod 60 = a0 % 60 := by rw [tmodI hr.1, tmodI (by omega)]; omega
  simp only [e1, e2, e3, e4, e5]
  refine ⟨by decide, by decide, by decide, by omega, by show _ < (7 : Int); omega, ?_⟩
  generalize hD : a0 / 86400 = D at *
  have hD2 : D < 23376 := by omega
  intro L hL
  refine loopI hL (fun z => ∃ k : Nat, z.2 = 1970 + (k : Int) ∧ z.1 = D - daysY k ∧ 0 ≤ z.1 ∧ k ≤ 64) (fun z => (z.1).toNat) (fun z hI ih => ?_) (D, 1970) ⟨0, by simp, by simp [daysY], by omega, by omega⟩
  obtain ⟨n, y⟩ := z
  obtain ⟨k, hz2, hz1, hn, hk⟩ := hI
  simp only at hz1 hz2 hn ⊢
  subst hz1 hz2
  have rk := daysY_range k
  have ryd := yearDays_range (1970 + (k : Int))
  refine ⟨show 0 ≤ 1970 + (k : Int) by omega, fun hle => ⟨show 0 ≤ 1970 + (k : Int) by omega, ?_⟩, fun hgt => ?_⟩
  · have hk1 : k + 1 ≤ 64 := by
      apply Classical.byContradiction
      intro hh
      have : k = 64 := by omega
      subst this
      rw [daysY_67] at hn
      omega
    have w1 : IntKind.i64.wrap (D - daysY k - mYearDays (1970 + (k : Int))) = D - daysY (k + 1) := by rw [wrap64 (by omega) (by omega)]; simp only [daysY]; omega
    have w2 : IntKind.i64.wrap (1970 + (k : Int) + 1) = 1970 + ((k + 1 : Nat) : Int) := by rw [wrap64 (by omega) (by omega)]; omega
    rw [w1, w2]
    exact ih _ ⟨k + 1, rfl, rfl, by simp only [daysY]; omega, hk1⟩ (by simp only [daysY]; omega)
  · intro L2 hL2
    refine loopI hL2 (fun z => ∃ j : Nat, j < 12 ∧ z.2 = 1 + (j : Int) ∧ z.1 = D - daysY k - daysM (1970 + (k : Int)) j ∧ 0 ≤ z.1) (fun z => (z.1).toNat) (fun z hI ih => ?_) (D - daysY k, 1) ⟨0, by omega, by simp, by simp [daysM], by simp only; omega⟩
    obtain ⟨n, m⟩ := z
    obtain ⟨j, hj, hz2, hz1, hn2⟩ := hI
    simp only at hz1 hz2 hn2 ⊢
    subst hz1 hz2
    have rmd := monthDays_range (1970 + (k : Int)) (m := (j : Int) + 1) (by omega) (by omega)
    have rdm := daysM_range (1970 + (k : Int)) j (by omega)
    have ej : (1 : Int) + (j : Int) = (j : Int) + 1 := by omega
    rw [ej]
    refine ⟨⟨by omega, by omega, by omega⟩, fun hle => ⟨⟨by omega, by omega, by omega⟩, ?_⟩, fun hgt2 => ?_⟩
    · have hj1 : j + 1 < 12 := by
        apply Classical.byContradiction
        intro hh
        have : j = 11 := by omega
        subst this
        have h12 : daysM (1970 + (k : Int)) 12 = daysM (1970 + (k : Int)) 11 + mMonthDays (1970 + (k : Int)) (((11 : Nat) : Int) + 1) := rfl
        rw [daysM_year] at h12
        omega
      have w1 : IntKind.i64.wrap (D - daysY k - daysM (1970 + (k : Int)) j - mMonthDays (1970 + (k : Int)) ((j : Int) + 1)) = D - daysY k - daysM (1970 + (k : Int)) (j + 1) := by rw [wrap64 (by omega) (by omega)]; simp only [daysM]; omega
      have w2 : IntKind.i64.wrap ((j : Int) + 1 + 1) = 1 + ((j + 1 : Nat) : Int) := by rw [wrap64 (by omega) (by omega)]; omega
      rw [w1, w2]
      exact ih _ ⟨j + 1, hj1, rfl, rfl, by simp only [daysM]; omega⟩ (by simp only [daysM]; omega)
    · have civ : civil D k j := ⟨by omega, hj, by omega, by simp only [daysM]; omega⟩
      have w1 : IntKind.i64.wrap (D - daysY k - daysM (1970 + (k : Int)) j + 1) = D - daysY k - daysM (1970 + (k : Int)) j + 1 := wrap64 (by omega) (by omega)
      have w2 : IntKind.i64.wrap ((j : Int) + 1 - 1) = (j : Int) := by rw [wrap64 (by omega) (by omega)]; omega
      have hy : pDec (1970 + (k : Int)) := ⟨by omega, by omega⟩
      have hdec := decS_le _ hy
      have hdec2 : (mItoa (1970 + (k : Int))).size ≤ 21 := hdec
      have hM := month_size (i := (j : Int)) (by omega) (by omega)
      simp only [w1, w2]
      repeat' apply And.intro
      all_goals first
        | (simp only [size_append, two_size, hW, hM, lit_size, List.length_cons, List.length_nil]; omega)
        | exact hy
        | exact ⟨by omega, by omega⟩
        | decide
        | (show _ < (12 : Int); omega)
        | omega
        | exact trivial
        | skip
      subst hD
      rw [showDate_at hr.1 hr.2 civ]
      rfl
end Go.Ev
end

section
/- Laws of the plain library: texts of moments, as spec makes them. -/
set_option linter.unusedVariables false
namespace Go.Ev
theorem daysOf_year {k : Nat} (h : k ≤ 67) : mDaysOf (1970 + (k : Int)) 1 1 = daysY k := by
  have hr := monthDays_range (1970 + (k : Int)) (m := 1) (by omega) (by omega)
  rw [← daysOf_yes (in_iff.2 ⟨by omega, by omega⟩) (in_iff.2 ⟨by omega, by omega⟩) (in_iff.2 ⟨by omega, by omega⟩)]
  rw [show (1970 + (k : Int) - 1970).toNat = k by omega, show ((1 : Int) - 1).toNat = 0 by omega]
  simp [daysM]
theorem daysOf_month {k j : Nat} (h : k ≤ 67) (hj : j < 12) : mDaysOf (1970 + (k : Int)) (1 + (j : Int)) 1 = daysY k + daysM (1970 + (k : Int)) j := by
  have hr := monthDays_range (1970 + (k : Int)) (m := 1 + (j : Int)) (by omega) (by omega)
  rw [← daysOf_yes (in_iff.2 ⟨by omega, by omega⟩) (in_iff.2 ⟨by omega, by omega⟩) (in_iff.2 ⟨by omega, by omega⟩)]
  rw [show (1970 + (k : Int) - 1970).toNat = k by omega, show ((1 : Int) + (j : Int) - 1).toNat = j by omega]
  omega
theorem spec_ShowDate_ok (a0 : Int) (h : pShowDate a0) : s_spec_ShowDate a0 (fun r => r = mShowDate a0) := by
  refine ⟨trivial, fun hn => showDate_no fun hh => hn (in_iff.2 hh), fun hy => ?_⟩
  have hr := in_iff.1 (Classical.not_not.1 hy)
  have e1 : IntKind.i64.wrap (a0.tdiv 86400) = a0 / 86400 := by rw [tdivI hr.1, wrap64 (by omega) (by omega)]
  have e2 : (a0 / 86400).tmod 7 = a0 / 86400 % 7 := tmodI (by omega)
  have hW := week_size (i := a0 / 86400 % 7) (by omega) (by omega)
  have e3 : (IntKind.i64.wrap (a0.tdiv 3600)).tmod 24 = a0 / 3600 % 24 := by rw [tdivI hr.1, wrap64 (by omega) (by omega), tmodI (by omega)]
  have e4 : (IntKind.i64.wrap (a0.tdiv 60)).tmod 60 = a0 / 60 % 60 := by rw [tdivI hr.1, wrap64 (by omega) (by omega), tmodI (by omega)]
  have e5 : a0.tmod 60 = a0 % 60 := tmodI hr.1
  simp only [e1, e2, e3, e4, e5]
  refine ⟨by decide, ?_⟩
  generalize hD : a0 / 86400 = D at *
  have hD2 : D < 23376 := by omega
  intro L hL
  refine loopI hL (fun y => ∃ k : Nat, y = 1970 + (k : Int) ∧ daysY k ≤ D ∧ k ≤ 64) (fun y => (2037 - y).toNat) (fun y hI ih => ?_) 1970 ⟨0, by simp, by simp [daysY]; omega, by omega⟩
  obtain ⟨k, rfl, hk0, hk⟩ := hI
  have rk := daysY_range k
  have ryd := yearDays_range (1970 + (k : Int))
  have wy : IntKind.i64.wrap (1970 + (k : Int) + 1) = 1970 + ((k + 1 : Nat) : Int) := by rw [wrap64 (by omega) (by omega)]; omega
  rw [wy, daysOf_year (by omega)]
  refine ⟨fun hlt => ⟨trivial, fun hle => ?_, fun hgt => ?_⟩, fun hge => absurd (show 1970 + (k : Int) < 2037 by omega) hge⟩
  · have hk1 : k + 1 ≤ 64 := by
      apply Classical.byContradiction
      intro hh
      have : k = 64 := by omega
      subst this
      have := daysY_mono (show 64 ≤ 64 + 1 by omega)
      rw [daysY_67] at this
      omega
    exact ih _ ⟨k + 1, rfl, hle, hk1⟩ (by omega)
  · intro L2 hL2
    refine loopI hL2 (fun m => ∃ j : Nat, j < 12 ∧ m = 1 + (j : Int) ∧ daysY k + daysM (1970 + (k : Int)) j ≤ D) (fun m => (12 - m).toNat) (fun m hI ih => ?_) 1 ⟨0, by omega, by simp, by simp [daysM]; omega⟩
    obtain ⟨j, hj, rfl, hj0⟩ := hI
    have rdm := daysM_range (1970 + (k : Int)) j (by omega)
    have wm : IntKind.i64.wrap (1 + (j : Int) + 1) = 1 + ((j + 1 : Nat) : Int) := by rw [wrap64 (by omega) (by omega)]; omega
    have dAt := daysOf_month (k := k) (by omega) hj
    have hy : pDec (1970 + (k : Int)) := ⟨by omega, by omega⟩
    have hdec := decS_le _ hy
    have hM := month_size (i := (j : Int)) (by omega) (by omega)
    have hup : D - (daysY k + daysM (1970 + (k : Int)) j) < 366 := by
      have : D < daysY k + mYearDays (1970 + (k : Int)) := by simp only [daysY] at hgt; omega
      omega
    rw [wm]
    refine ⟨fun hlt2 => ⟨trivial, fun hle => ?_, fun hgt2 => ?_⟩, fun hge2 => ?_⟩
    · rw [daysOf_month (by omega) (by omega)] at hle
      exact ih _ ⟨j + 1, by omega, rfl, hle⟩ (by omega)
    · rw [daysOf_month (by omega) (by omega)] at hgt2
      have civ : civil D k j := ⟨by omega, hj, by omega, by omega⟩
      have rmd := monthDays_range (1970 + (k : Int)) (m := (j : Int) + 1) (by omega) (by omega)
      have hup2 : D - (daysY k + daysM (1970 + (k : Int)) j) < 31 := by simp only [daysM] at hgt2; omega
      have w1 : IntKind.i64.wrap (IntKind.i64.wrap (D - mDaysOf (1970 + (k : Int)) (1 + (j : Int)) 1) + 1) = D - daysY k - daysM (1970 + (k : Int)) j + 1 := by rw [dAt, wrap64 (n := D - (daysY k + daysM (1970 + (k : Int)) j)) (by omega) (by omega), wrap64 (by omega) (by omega)]; omega
      have w2 : IntKind.i64.wrap (1 + (j : Int) - 1) = (j : Int) := by rw [wrap64 (by omega) (by omega)]; omega
      simp only [w1, w2]
      repeat' apply And.intro
      all_goals first
        | (simp only [size_append, mL4Two, two_size, hW, hM, lit_size, List.length_cons, List.length_nil]; omega)
        | exact hy
        | exact ⟨by omega, by omega⟩
        | decide
        | (show _ < (7 : Int); omega)
        | (show _ < (12 : Int); omega)
        | omega
        | exact trivial
        | skip
      subst hD
      rw [showDate_at hr.1 hr.2 civ]
      rfl
    · have hje : j = 11 := by omega
      have civ : civil D k j := ⟨by omega, hj, by omega, by
        subst hje
        show D < daysY k + daysM (1970 + (k : Int)) 12
        rw [daysM_year]
        simp only [daysY] at hgt
        omega⟩
      have rmd := monthDays_range (1970 + (k : Int)) (m := (j : Int) + 1) (by omega) (by omega)
      have hup2 : D - (daysY k + daysM (1970 + (k : Int)) j) < 31 := by
        have := civ.2.2.2
        simp only [daysM] at this; omega
      have w1 : IntKind.i64.wrap (IntKind.i64.wrap (D - mDaysOf (1970 + (k : Int)) (1 + (j : Int)) 1) + 1) = D - daysY k - daysM (1970 + (k : Int)) j + 1 := by rw [dAt, wrap64 (n := D - (daysY k + daysM (1970 + (k : Int)) j)) (by omega) (by omega), wrap64 (by omega) (by omega)]; omega
      have w2 : IntKind.i64.wrap (1 + (j : Int) - 1) = (j : Int) := by rw [wrap64 (by omega) (by omega)]; omega
      simp only [w1, w2]
      repeat' apply And.intro
      all_goals first
        | (simp only [size_append, mL4Two, two_size, hW, hM, lit_size, List.length_cons, List.length_nil]; omega)
        | exact hy
        | exact ⟨by omega, by omega⟩
        | decide
        | (show _ < (7 : Int); omega)
        | (show _ < (12 : Int); omega)
        | omega
        | exact trivial
        | skip
      subst hD
      rw [showDate_at hr.1 hr.2 civ]
      rfl
end Go.Ev
end

section
/- Laws of the plain library, second part: searches. -/
set_option linter.unusedVariables false
namespace Go.Ev

def scanS {α : Type} [Dft α] (xs : List α) (P C : α → Prop) (Qh : Int → Prop) (Qe : Prop) : Prop :=
  ∀ L : Int → Prop, (∀ y : Int, ((y < (xs.length : Int) → 0 ≤ y ∧ y < (xs.length : Int) ∧ P (rx xs y) ∧ ((C (rx xs y) → Qh y) ∧ (¬ C (rx xs y) → L (IntKind.i64.wrap (y + 1))))) ∧
    (¬ y < (xs.length : Int) → Qe)) → L y) → L 0
theorem scanS_ok {α : Type} [Dft α] {xs : List α} {P C : α → Prop} {Qh : Int → Prop} {Qe : Prop} (hlen : xs.length ≤ maxLen) (hP : ∀ x ∈ xs, P x)
    (hh : ∀ (i : Nat) (h : i < xs.length), C xs[i] → (∀ (j : Nat) (hj : j < i), ¬ C (xs[j]'(by omega))) → Qh (i : Int)) (he : (∀ x ∈ xs, ¬ C x) → Qe) : scanS xs P C Qh Qe := by
  intro L hL
  simp only [maxLen] at hlen
  refine loopN hL xs.length (by omega) (fun i => ∀ (j : Nat) (hj : j < i) (h : j < xs.length), ¬ C xs[j]) (fun i hi hI hn => ?_) (fun j hj => by omega)
  refine ⟨fun hlt => ?_, fun hge => ?_⟩
  · have hlt : i < xs.length := by omega
    rw [rx_get xs hlt]
    refine ⟨by omega, by omega, hP _ (List.getElem_mem hlt), fun hc => hh i hlt hc fun j hj => hI j hj (by omega), fun hc => hn hlt fun j hj h => ?_⟩
    by_cases e : j = i
    · subst e; exact hc
    · exact hI j (by omega) h
  · refine he fun x hx => ?_
    obtain ⟨j, hj, rfl⟩ := List.mem_iff_getElem.1 hx
    exact hI j (by omega) hj
def scanT {α : Type} [Dft α] (xs : List α) (C : α → Prop) (Qh : Int → Prop) (Qe : Prop) : Prop :=
  ∀ L : Int → Prop, (∀ y : Int, ((y < (xs.length : Int) → 0 ≤ y ∧ y < (xs.length : Int) ∧ ((C (rx xs y) → Qh y) ∧ (¬ C (rx xs y) → L (IntKind.i64.wrap (y + 1))))) ∧
    (¬ y < (xs.length : Int) → Qe)) → L y) → L 0
theorem scanT_ok {α : Type} [Dft α] {xs : List α} {C : α → Prop} {Qh : Int → Prop} {Qe : Prop} (hlen : xs.length ≤ maxLen)
    (hh : ∀ (i : Nat) (h : i < xs.length), C xs[i] → (∀ (j : Nat) (hj : j < i), ¬ C (xs[j]'(by omega))) → Qh (i : Int)) (he : (∀ x ∈ xs, ¬ C x) → Qe) : scanT xs C Qh Qe := by
  have h : scanS xs (fun _ => True) C Qh Qe := scanS_ok hlen (fun _ _ => trivial) hh he
  intro L hL
  exact h L fun y hy => hL y ⟨fun h1 => ⟨(hy.1 h1).1, (hy.1 h1).2.1, (hy.1 h1).2.2.2⟩, hy.2⟩
theorem md_len' {α : Type} [Cz α] {xs : List α} (h : md xs) : xs.length ≤ 1048576 := by
  have := cz_len xs
  unfold md at h
  omega

theorem idxS_ok {α : Type} [Dft α] {xs : List α} {P : α → Prop} {F : α → Bool} (hlen : xs.length ≤ maxLen) (hP : ∀ x ∈ xs, P x) :
    scanS xs P (fun x => F x = true) (fun i => i = idxI F xs) (-1 = idxI F xs) :=
  scanS_ok hlen hP (fun i h hc hb => (idxI_at h hc fun j hj => by have := hb j hj; simpa using this).symm)
    (fun h => (idxI_none fun j hj => by have := h _ (List.getElem_mem hj); simpa using this).symm)
theorem idxI_nonneg {α : Type} {F : α → Bool} {xs : List α} : decide (0 ≤ idxI F xs) = xs.any F := by
  have h := idxI_neg (p := F) (xs := xs)
  cases hx : xs.any F with
  | true =>
    rw [hx] at h
    have : ¬ idxI F xs < 0 := by rw [h]; simp
    exact decide_eq_true (by omega)
  | false =>
    have := h.2 hx
    exact decide_eq_false (by omega)
theorem slices_Index_string_ok (a0 : List S) (a1 : S) (h : pIndex_string a0 a1) : s_slices_Index_string a0 a1 (fun r => r = mIndex_string a0 a1) := by
  refine scanT_ok (C := fun x => a1 = x) (Qh := fun i => i = mIndex_string a0 a1) h (fun i hi hc hb => ?_) (fun hx => ?_)
  · exact (idxI_at hi (by simpa using hc) fun j hj => by have := hb j hj; simpa using this).symm
  · exact (idxI_none fun j hj => by have := hx _ (List.getElem_mem hj); simpa using this).symm
theorem IndexFunc_CcHas_1_ok (a0 : List Fld) (a1 : S) (h : pIndexFunc_CcHas_1 a0 a1) : s_IndexFunc_CcHas_1 a0 a1 (fun r => r = mIndexFunc_CcHas_1 a0 a1) :=
  idxS_ok (P := fun x => pCcHas_1 x a1) (F := fun d => mCcHas_1 d a1) h fun _ _ => trivial
theorem ContainsFunc_CcHas_1_ok (a0 : List Fld) (a1 : S) (h : pContainsFunc_CcHas_1 a0 a1) : s_ContainsFunc_CcHas_1 a0 a1 (fun r => r = mContainsFunc_CcHas_1 a0 a1) := ⟨h, idxI_nonneg⟩
theorem ints_get (s : S) {i : Nat} (h : i < s.size) : (ints s)[i]'(by unfold ints; rw [List.length_map, bs_len]; exact h) = bt s (i : Int) := by
  rw [bt_nat s i h]
  unfold ints
  rw [List.getElem_map]
theorem ints_len (s : S) : (ints s).length = s.size := by unfold ints; rw [List.length_map, bs_len]
theorem ints_all {s : S} {p : Int → Bool} : (ints s).all p = true ↔ ∀ i : Nat, i < s.size → p (bt s (i : Int)) = true := by
  rw [List.all_eq_true]
  constructor
  · intro h i hi
    rw [← ints_get s hi]
    exact h _ (List.getElem_mem _)
  · intro h x hx
    obtain ⟨j, hj, rfl⟩ := List.mem_iff_getElem.1 hx
    have hj' : j < s.size := by rw [ints_len] at hj; exact hj
    rw [ints_get s hj']
    exact h j hj'
theorem ints_all_false {s : S} {p : Int → Bool} {i : Nat} (h : i < s.size) (hp : ¬ p (bt s (i : Int)) = true) : (ints s).all p = false := by
  cases hx : (ints s).all p with
  | false => rfl
  | true => exact absurd (ints_all.1 hx i h) hp
theorem scanB {s : S} {p : Int → Bool} {B : Int → (Int → Prop) → Prop} (hlen : sm s)
    (hit : ∀ i : Nat, i < s.size → ∀ L : Int → Prop, (p (bt s (i : Int)) = true → L (IntKind.i64.wrap ((i : Int) + 1))) → (¬ p (bt s (i : Int)) = true → (ints s).all p = false) → B (i : Int) L)
    (he : (ints s).all p = true → ∀ L, B (s.size : Int) L) : ∀ L : Int → Prop, (∀ y, B y L → L y) → L 0 := by
  intro L hL
  unfold sm at hlen
  refine loopN hL s.size (by omega) (fun i => ∀ j : Nat, j < i → j < s.size → p (bt s (j : Int)) = true) (fun i hi hI hn => ?_) (fun j hj => by omega)
  by_cases hlt : i < s.size
  · refine hit i hlt L (fun hp => hn hlt fun j hj hj2 => ?_) fun hp => ints_all_false hlt hp
    by_cases e : j = i
    · subst e; exact hp
    · exact hI j (by omega) hj2
  · have : i = s.size := by omega
    subst this
    exact he (ints_all.2 fun j hj => hI j hj hj) L
theorem spec_IsTokenText_ok (a0 : S) (h : pIsTokenText a0) : s_spec_IsTokenText a0 (fun r => r = mIsTokenText a0) := by
  refine scanB (p := mToken) h (fun i hi L hL hf => ?_) fun ha L => ?_
  · unfold mIsTokenText pToken
    grind
  · unfold mIsTokenText
    simp only [ha]
    grind
theorem sign_iff : ∀ n : Fin 256, (mToken (n.val : Int) = true) ↔ (mIsLetterOrDigit (n.val : Int) = true ∨ ¬ mIndexByte (lit [33, 35, 36, 37, 38, 39, 42, 43, 45, 46, 94, 95, 124, 126, 96]) (n.val : Int) < 0) := by decide +kernel
theorem impl_IsTokenText_ok (a0 : S) (h : pIsTokenText a0) : s_impl_IsTokenText a0 (fun r => r = mIsTokenText a0) := by
  refine scanB (p := mToken) h (fun i hi L hL hf => ?_) fun ha L => ?_
  · have hb := bt_range a0 (i : Int)
    have hs := sign_iff ⟨(bt a0 (i : Int)).toNat, by omega⟩
    simp only [Int.toNat_of_nonneg hb.1] at hs
    unfold mIsTokenText pIsLetterOrDigit pIndexByte
    generalize mIndexByte _ (bt a0 (i : Int)) = k at hs ⊢
    grind
  · unfold mIsTokenText
    simp only [ha]
    refine ⟨fun h => by omega, fun _ => ?_⟩
    rw [Bool.true_and]
    exact decide_eq_decide.2 lit_ne
end Go.Ev
end

section
/- Laws of the plain library, third part: texts out of texts. -/
set_option linter.unusedVariables false
namespace Go.Ev

theorem bytesOf_ints (s : S) : bytesOf s = ints s := rfl
theorem lowI (b : UInt8) : ((lowB b).toNat : Int) = if 65 ≤ (b.toNat : Int) ∧ (b.toNat : Int) ≤ 90 then (b.toNat : Int) + 32 else (b.toNat : Int) := by
  unfold lowB
  split
  · next h =>
    rw [if_pos (by omega)]
    have : (b + 32).toNat = b.toNat + 32 := by
      rw [UInt8.toNat_add]
      have : (32 : UInt8).toNat = 32 := rfl
      rw [this]
      omega
    omega
  · next h => rw [if_neg (by omega)]
theorem strOf_map (l : List UInt8) : strOf (l.map fun b => (b.toNat : Int)) = ob l := by
  unfold strOf ob
  congr 2
  rw [List.map_map]
  conv => rhs; rw [← List.map_id l]
  apply List.map_congr_left
  intro b _
  simp
theorem spec_Lower_ok (a0 : S) (h : pLower a0) : s_spec_Lower a0 (fun r => r = mLower a0) := by
  unfold pLower sm at h
  refine ⟨by omega, fun L hL => ?_⟩
  rw [bytesOf_ints]
  let f : List UInt8 → List Int := fun l => l.map fun b => (b.toNat : Int)
  have hl := bs_len a0
  refine loopG hL a0.size (fun i y => y.1 = (i : Int) ∧ y.2 = f (((bs a0).take i).map lowB ++ (bs a0).drop i)) (fun i y hi hI hn => ?_) (s0 := (0, ints a0)) ⟨rfl, by simp [f, ints]⟩
  obtain ⟨y1, y2⟩ := y
  simp only at hI ⊢
  obtain ⟨rfl, rfl⟩ := hI
  have hlen : (f (((bs a0).take i).map lowB ++ (bs a0).drop i)).length = a0.size := by
    simp only [f, List.length_map, List.length_append, List.length_take, List.length_drop]
    omega
  refine ⟨fun hlt => ?_, fun hge => ?_⟩
  · rw [hlen] at hlt ⊢
    have hi2 : i < a0.size := by omega
    have hi3 : i < (bs a0).length := by omega
    have hget : rx (f (((bs a0).take i).map lowB ++ (bs a0).drop i)) (i : Int) = ((bs a0)[i].toNat : Int) := by
      rw [rx_get _ (by rw [hlen]; exact hi2)]
      simp only [f, List.getElem_map]
      rw [List.getElem_append_right (by simp; omega)]
      simp only [List.length_map, List.length_take, List.getElem_drop]
      congr 3
      omega
    have hlow := lowI (bs a0)[i]
    have hb := (bs a0)[i].toNat_lt
    have hset : ∀ v : Int, v = ((lowB (bs a0)[i]).toNat : Int) → (f (((bs a0).take i).map lowB ++ (bs a0).drop i)).set ((i : Int).toNat) v = f (((bs a0).take (i + 1)).map lowB ++ (bs a0).drop (i + 1)) := fun v hv => by
      rw [hv, Int.toNat_natCast, take_succ_app hi3]
      simp only [f, List.map_append, List.map_cons, List.map_nil]
      rw [List.set_append_right _ _ (by simp; omega)]
      simp only [List.length_map, List.length_take]
      rw [show i - min i (bs a0).length = 0 by omega, ← List.getElem_cons_drop (h := hi3)]
      simp
    have hkeep : (bs a0)[i].toNat = (lowB (bs a0)[i]).toNat → f (((bs a0).take i).map lowB ++ (bs a0).drop i) = f (((bs a0).take (i + 1)).map lowB ++ (bs a0).drop (i + 1)) := fun hv => by
      rw [take_succ_app hi3]
      simp only [f, List.map_append, List.map_cons, List.map_nil]
      rw [← List.getElem_cons_drop (h := hi3)]
      simp only [List.map_cons, List.append_assoc, List.cons_append, List.nil_append, hv]
    have hw : IntKind.i64.wrap ((i : Int) + 1) = ((i + 1 : Nat) : Int) := wrapS (by omega)
    rw [hget, hw]
    refine ⟨by omega, by omega, fun h1 => ⟨by omega, by omega, fun h2 => ⟨by omega, by omega, by omega, by omega, ?_⟩, fun h2 => ?_⟩, fun h1 => ?_⟩
    · refine hn _ hi2 ⟨rfl, hset _ ?_⟩
      rw [hlow, if_pos ⟨h1, h2⟩, wrap8 (by omega) (by omega)]
    · refine hn _ hi2 ⟨rfl, hkeep ?_⟩
      rw [if_neg (by omega)] at hlow
      omega
    · refine hn _ hi2 ⟨rfl, hkeep ?_⟩
      rw [if_neg (by omega)] at hlow
      omega
  · rw [hlen] at hge
    have e : i = (bs a0).length := by omega
    rw [e, List.drop_length, List.take_length, List.append_nil]
    exact strOf_map _

theorem joinL_snoc (sep : S) : ∀ (vs : List S) (v : S), joinL sep (vs ++ [v]) = if vs = [] then v else joinL sep vs ++ sep ++ v
  | [], v => rfl
  | [x], v => rfl
  | x :: y :: r, v => by
    have ih := joinL_snoc sep (y :: r) v
    simp only [List.cons_append, joinL, reduceCtorEq, if_false] at ih ⊢
    rw [ih]
    apply bs_inj
    simp only [bs_append, List.append_assoc]
theorem joinL_size (sep : S) : ∀ (vs : List S), (joinL sep vs).size ≤ sumN (vs.map fun x => x.size) + vs.length * sep.size
  | [] => by show (lit []).size ≤ _; exact Nat.zero_le _
  | [x] => by simp only [joinL, List.map_cons, List.map_nil, sumN, List.length_singleton]; omega
  | x :: y :: r => by
    have ih := joinL_size sep (y :: r)
    simp only [joinL, size_append, List.map_cons, sumN, List.length_cons] at ih ⊢
    rw [Nat.succ_mul]
    omega
theorem sumN_append : ∀ (a b : List Nat), sumN (a ++ b) = sumN a + sumN b
  | [], b => by simp [sumN]
  | x :: a, b => by simp only [List.cons_append, sumN, sumN_append a b]; omega
theorem valuesOf_bound (n : S) : ∀ (l : List Fld), sumN ((valuesOf l n).map fun x => x.size) + (valuesOf l n).length ≤ cz l
  | [] => by simp [valuesOf, sumN]
  | f :: l => by
    have ih := valuesOf_bound n l
    simp only [valuesOf, cz_list, List.filter_cons, List.length_cons, List.map_cons, sumN, cz_pair, cz_str] at ih ⊢
    split
    · simp only [List.map_cons, sumN, List.length_cons]; omega
    · omega
theorem valuesOf_take (l : List Fld) (n : S) {i : Nat} (h : i < l.length) : valuesOf (l.take (i + 1)) n = if l[i].1 = n then valuesOf (l.take i) n ++ [l[i].2] else valuesOf (l.take i) n := by
  rw [take_succ_app h]
  unfold valuesOf
  rw [List.filter_append, List.map_append]
  by_cases e : l[i].1 = n
  · simp [e]
  · simp [e]
theorem cz_take {α : Type} [Cz α] (l : List α) (i : Nat) : cz (l.take i) ≤ cz l := by
  have h : sumN (l.map cz) = sumN ((l.take i).map cz) + sumN ((l.drop i).map cz) := by
    rw [← sumN_append, ← List.map_append, List.take_append_drop]
  simp only [cz_list, List.length_take]
  omega
theorem sep_size : (lit [44, 32]).size = 2 := rfl
theorem spec_FieldGet_ok (a0 : List Fld) (a1 : S) (h : pFieldGet a0 a1) : s_spec_FieldGet a0 a1 (fun r => r = mFieldGet a0 a1) := by
  intro L hL
  have hlen := md_len' h
  have hb : ∀ i, (joinL (lit [44, 32]) (valuesOf (a0.take i) a1)).size ≤ 3 * 1048576 := fun i => by
    have h1 := joinL_size (lit [44, 32]) (valuesOf (a0.take i) a1)
    have h2 := valuesOf_bound a1 (a0.take i)
    have h3 := cz_take a0 i
    have h4 : cz a0 ≤ 1048576 := h
    rw [sep_size] at h1
    omega
  refine loopG hL a0.length (fun i y => y.2.2 = (i : Int) ∧ y.1 = joinL (lit [44, 32]) (valuesOf (a0.take i) a1) ∧ y.2.1 = decide (valuesOf (a0.take i) a1 ≠ [])) (fun i y hi hI hn => ?_) (s0 := (lit [], false, 0)) ⟨rfl, rfl, rfl⟩
  obtain ⟨y1, y2, y3⟩ := y
  simp only at hI ⊢
  obtain ⟨rfl, rfl, rfl⟩ := hI
  refine ⟨fun hlt => ?_, fun hge => ?_⟩
  · have hi2 : i < a0.length := by omega
    have hv := valuesOf_take a0 a1 hi2
    have hval : cz a0[i] ≤ 1048576 := md_mem h (List.getElem_mem hi2)
    simp only [cz_pair, cz_str] at hval
    have hbi := hb i
    rw [rx_get a0 hi2, wrapS (by omega)]
    refine ⟨by omega, by omega, fun hne => hn _ hi2 ⟨rfl, ?_, ?_⟩, fun heq => ?_⟩
    · rw [hv, if_neg hne]
    · rw [hv, if_neg hne]
    · have heq : a0[i].1 = a1 := Classical.not_not.1 heq
      rw [if_pos heq] at hv
      refine ⟨fun hs => ?_, fun hs => ?_⟩
      · have hs := of_decide_eq_true hs
        refine ⟨by rw [sep_size]; omega, by omega, by omega, by rw [size_append, sep_size]; omega, hn _ hi2 ⟨rfl, ?_, ?_⟩⟩
        · rw [hv, joinL_snoc, if_neg hs]
        · rw [hv]; simp
      · have hs : valuesOf (a0.take i) a1 = [] := by simpa using hs
        refine ⟨by omega, by omega, by omega, hn _ hi2 ⟨rfl, ?_, ?_⟩⟩
        · rw [hv, hs, joinL_snoc, if_pos rfl]
          apply bs_inj; rw [bs_append]; rfl
        · rw [hv]; simp
  · have e : a0.take i = a0 := List.take_of_length_le (by omega)
    rw [e]
    unfold mFieldGet mJoin
    congr 1
    rw [decide_eq_decide]
    rw [List.length_pos_iff]
theorem pJoin_values (a0 : List Fld) (a1 : S) (h : pFieldGet a0 a1) : pJoin (valuesOf a0 a1) (lit [44, 32]) := by
  have h2 := valuesOf_bound a1 a0
  have h4 : cz a0 ≤ 1048576 := h
  exact ⟨by omega, by omega, by rw [sep_size]; omega⟩
theorem impl_FieldGet_ok (a0 : List Fld) (a1 : S) (h : pFieldGet a0 a1) : s_impl_FieldGet a0 a1 (fun r => r = mFieldGet a0 a1) := by
  intro L hL
  have hlen := md_len' h
  refine loopG hL a0.length (fun i y => y.2 = (i : Int) ∧ y.1 = valuesOf (a0.take i) a1) (fun i y hi hI hn => ?_) (s0 := ([], 0)) ⟨rfl, rfl⟩
  obtain ⟨y1, y2⟩ := y
  simp only at hI ⊢
  obtain ⟨rfl, rfl⟩ := hI
  refine ⟨fun hlt => ?_, fun hge => ?_⟩
  · have hi2 : i < a0.length := by omega
    have hv := valuesOf_take a0 a1 hi2
    have h2 := valuesOf_bound a1 (a0.take i)
    have h3 := cz_take a0 i
    have h4 : cz a0 ≤ 1048576 := h
    rw [rx_get a0 hi2, wrapS (by omega)]
    refine ⟨by omega, by omega, fun he => ⟨by simp only [List.length_singleton]; omega, hn _ hi2 ⟨rfl, by rw [hv, if_pos he]⟩⟩, fun hne => hn _ hi2 ⟨rfl, by rw [hv, if_neg hne]⟩⟩
  · have e : a0.take i = a0 := List.take_of_length_le (by omega)
    rw [e]
    refine ⟨pJoin_values a0 a1 h, ?_⟩
    unfold mFieldGet
    congr 1
    rw [decide_eq_decide]
    omega
theorem fieldGet_size (a0 : List Fld) (a1 : S) (h : pFieldGet a0 a1) : (mFieldGet a0 a1).1.size ≤ 3 * 1048576 := by
  have h1 := joinL_size (lit [44, 32]) (valuesOf a0 a1)
  have h2 := valuesOf_bound a1 a0
  have h4 : cz a0 ≤ 1048576 := h
  rw [sep_size] at h1
  unfold mFieldGet mJoin
  simp only
  omega

theorem partsL_nil (q : Bool) (cur : List UInt8) : partsL q cur [] = [cur] := by cases q <;> rfl
theorem partsL_one (cur : List UInt8) (b : UInt8) : partsL true cur [b] = [cur ++ [b]] := rfl
theorem partsL_in (cur : List UInt8) (b c : UInt8) (r : List UInt8) : partsL true cur (b :: c :: r) = if b = 34 then partsL false (cur ++ [b]) (c :: r) else if b = 92 then partsL true (cur ++ [b, c]) r else partsL true (cur ++ [b]) (c :: r) := by rw [partsL]
theorem partsL_out (cur : List UInt8) (b : UInt8) (r : List UInt8) : partsL false cur (b :: r) = if b = 34 then partsL true (cur ++ [b]) r else if b = 44 then cur :: partsL false [] r else partsL false (cur ++ [b]) r := by rw [partsL]
theorem partsL_bound : ∀ (q : Bool) (cur l : List UInt8), sumN ((partsL q cur l).map List.length) ≤ cur.length + l.length ∧ (partsL q cur l).length ≤ l.length + 1
  | q, cur, [] => by rw [partsL_nil]; simp [sumN]
  | true, cur, [b] => by rw [partsL_one]; simp [sumN]
  | true, cur, b :: c :: r => by
    rw [partsL_in]
    split
    · have := partsL_bound false (cur ++ [b]) (c :: r)
      simp only [List.length_append, List.length_cons, List.length_nil] at this ⊢
      omega
    · split
      · have := partsL_bound true (cur ++ [b, c]) r
        simp only [List.length_append, List.length_cons, List.length_nil] at this ⊢
        omega
      · have := partsL_bound true (cur ++ [b]) (c :: r)
        simp only [List.length_append, List.length_cons, List.length_nil] at this ⊢
        omega
  | false, cur, b :: r => by
    rw [partsL_out]
    split
    · have := partsL_bound true (cur ++ [b]) r
      simp only [List.length_append, List.length_cons, List.length_nil] at this ⊢
      omega
    · split
      · have := partsL_bound false [] r
        simp only [List.length_append, List.length_cons, List.length_nil, List.map_cons, sumN] at this ⊢
        omega
      · have := partsL_bound false (cur ++ [b]) r
        simp only [List.length_append, List.length_cons, List.length_nil] at this ⊢
        omega
theorem dropWhile_le {α : Type} (p : α → Bool) (l : List α) : (l.dropWhile p).length ≤ l.length := (List.dropWhile_sublist p).length_le
theorem trimS_le (l cs : List UInt8) : (Lib.trimS l cs).length ≤ l.length := by
  unfold Lib.trimS Lib.trimLeftS Lib.trimRightS
  have h1 := dropWhile_le (cs.contains ·) ((l.reverse.dropWhile (cs.contains ·)).reverse)
  have h2 := dropWhile_le (cs.contains ·) l.reverse
  simp only [List.length_reverse] at h1 h2
  omega
theorem mTrim_le (s : S) : (mTrim s).size ≤ s.size := by
  unfold mTrim
  rw [ob_size, ← bs_len]
  exact trimS_le _ _
theorem trimmed_bound : ∀ (l : List (List UInt8)), sumN ((trimmed l).map fun x => x.size) ≤ sumN (l.map List.length) ∧ (trimmed l).length ≤ l.length
  | [] => by simp [trimmed, sumN]
  | p :: l => by
    have ih := trimmed_bound l
    have h := mTrim_le (ob p)
    rw [ob_size] at h
    simp only [trimmed, List.map_cons, List.filter_cons] at ih ⊢
    split
    · simp only [List.map_cons, sumN, List.length_cons]; omega
    · simp only [sumN, List.length_cons]; omega
theorem splitList_bound (s : S) : sumN ((mSplitList s).map fun x => x.size) ≤ s.size ∧ (mSplitList s).length ≤ s.size + 1 := by
  have h1 := partsL_bound false [] (bs s)
  have h2 := trimmed_bound (partsL false [] (bs s))
  rw [bs_len] at h1
  unfold mSplitList
  simp only [List.length_nil] at h1
  omega
theorem splitList_mem {s x : S} (h : x ∈ mSplitList s) : x.size ≤ s.size := by
  have h1 := (splitList_bound s).1
  have h2 := sumN_mem (List.mem_map.2 ⟨x, h, rfl⟩ : x.size ∈ (mSplitList s).map fun x => x.size)
  omega
theorem directives_len (a0 : List Fld) (h : pDirectives a0) : (mDirectives a0).length ≤ 3 * 1048576 + 1 := by
  have h1 := List.length_filterMap_le dirOf (mSplitList (mFieldGet a0 nameCC).1)
  have h2 := (splitList_bound (mFieldGet a0 nameCC).1).2
  have h3 := fieldGet_size a0 nameCC h
  unfold mDirectives
  omega
theorem impl_CcHas_ok (a0 : List Fld) (a1 : S) (h : pCcHas a0 a1) : s_impl_CcHas a0 a1 (fun r => r = mCcHas a0 a1) := by
  have hd := directives_len a0 h
  exact ⟨h, by unfold pContainsFunc_CcHas_1; simp only [maxLen]; omega, rfl⟩
theorem spec_CcHas_ok (a0 : List Fld) (a1 : S) (h : pCcHas a0 a1) : s_spec_CcHas a0 a1 (fun r => r = mCcHas a0 a1) := by
  have hd := directives_len a0 h
  refine ⟨h, scanT_ok (C := fun x : Fld => x.1 = a1) (Qh := fun _ => true = mCcHas a0 a1) (by simp only [maxLen]; omega) (fun i hi hc _ => ?_) (fun hx => ?_)⟩
  · unfold mCcHas mCcHas_1
    exact (any_true hi (by simpa using hc)).symm
  · unfold mCcHas mCcHas_1
    exact (List.any_eq_false.2 fun x hx' => by have := hx x hx'; simpa using this).symm
theorem impl_CcHas_1_ok (a0 : Fld) (a1 : S) (h : pCcHas_1 a0 a1) : s_impl_CcHas_1 a0 a1 (fun r => r = mCcHas_1 a0 a1) := rfl
end Go.Ev
end

section
/- Laws of the plain library, fourth part: parts of texts. -/
set_option linter.unusedVariables false
namespace Go.Ev

def blk (b : UInt8) : Bool := [(32 : UInt8), 9].contains b
theorem blk_iff (b : UInt8) : blk b = true ↔ mBlank (b.toNat : Int) = true := by
  have h : ∀ n : Fin 256, (blk (UInt8.ofNat n.val) = true) ↔ mBlank (n.val : Int) = true := by decide +kernel
  have := h ⟨b.toNat, b.toNat_lt⟩
  simpa using this
theorem trimS_cons {b : UInt8} (h : blk b = true) (l : List UInt8) : Lib.trimS (b :: l) [32, 9] = Lib.trimS l [32, 9] := by
  have h' : [(32 : UInt8), 9].contains b = true := h
  unfold Lib.trimS Lib.trimLeftS Lib.trimRightS
  rw [List.reverse_cons, List.dropWhile_append]
  split
  · next hd =>
    have hd : l.reverse.dropWhile (fun x => [(32 : UInt8), 9].contains x) = [] := by simpa using hd
    rw [hd]
    have : List.dropWhile (fun x => [(32 : UInt8), 9].contains x) [b] = [] := by
      rw [List.dropWhile_cons, if_pos h']; rfl
    rw [this]
  · rw [List.reverse_append, List.reverse_singleton, List.singleton_append, List.dropWhile_cons, if_pos h']
theorem trimS_snoc {b : UInt8} (h : blk b = true) (l : List UInt8) : Lib.trimS (l ++ [b]) [32, 9] = Lib.trimS l [32, 9] := by
  have h' : [(32 : UInt8), 9].contains b = true := h
  unfold Lib.trimS Lib.trimRightS
  rw [List.reverse_append, List.reverse_singleton, List.singleton_append, List.dropWhile_cons, if_pos h']
theorem trimS_id {l : List UInt8} (h0 : ∀ b, l.head? = some b → blk b = false) (h1 : ∀ b, l.getLast? = some b → blk b = false) : Lib.trimS l [32, 9] = l := by
  have key : ∀ l : List UInt8, (∀ b, l.head? = some b → blk b = false) → l.dropWhile (fun x => [(32 : UInt8), 9].contains x) = l := fun l h => by
    cases l with
    | nil => rfl
    | cons b r =>
      rw [List.dropWhile_cons, if_neg]
      have := h b rfl
      unfold blk at this
      rw [this]; simp
  unfold Lib.trimS Lib.trimLeftS Lib.trimRightS
  rw [key l.reverse (fun b hb => h1 b (by rw [List.head?_reverse] at hb; exact hb)), List.reverse_reverse, key l h0]
theorem spec_Trim_ok (a0 : S) (h : pTrim a0) : s_spec_Trim a0 (fun r => r = mTrim a0) := by
  unfold pTrim sm at h
  -- the second loop
  have back : ∀ y : S, y.size ≤ a0.size → mTrim y = mTrim a0 → (∀ b, (bs y).head? = some b → blk b = false) → ∀ L2 : S → Prop,
      (∀ y3 : S, ((0 < (y3.size : Int) → 0 ≤ IntKind.i64.wrap ((y3.size : Int) - 1) ∧ IntKind.i64.wrap ((y3.size : Int) - 1) < (y3.size : Int) ∧ pBlank (bt y3 (IntKind.i64.wrap ((y3.size : Int) - 1))) ∧
          (mBlank (bt y3 (IntKind.i64.wrap ((y3.size : Int) - 1))) = true → 0 ≤ IntKind.i64.wrap ((y3.size : Int) - 1) ∧ IntKind.i64.wrap ((y3.size : Int) - 1) ≤ (y3.size : Int) ∧ L2 (y3.extract 0 (IntKind.i64.wrap ((y3.size : Int) - 1)).toNat)) ∧
          (¬ mBlank (bt y3 (IntKind.i64.wrap ((y3.size : Int) - 1))) = true → y3 = mTrim a0)) ∧
        (¬ 0 < (y3.size : Int) → y3 = mTrim a0)) → L2 y3) → L2 y := by
    intro y hy hm hh L2 hL
    refine loopI hL (fun y => y.size ≤ a0.size ∧ mTrim y = mTrim a0 ∧ ∀ b, (bs y).head? = some b → blk b = false) (fun y => y.size) (fun y ⟨hy, hm, hh⟩ ih => ?_) y ⟨hy, hm, hh⟩
    refine ⟨fun h0 => ?_, fun h0 => ?_⟩
    · have hpos : 0 < y.size := by omega
      have hw : IntKind.i64.wrap ((y.size : Int) - 1) = ((y.size - 1 : Nat) : Int) := by rw [wrap64 (by omega) (by omega)]; omega
      rw [hw]
      have hlen := bs_len y
      have hb := bt_nat y (y.size - 1) (by omega)
      have hlast : (bs y).getLast? = some ((bs y)[y.size - 1]'(by omega)) := by
        rw [List.getLast?_eq_getElem?]
        simp only [hlen]
        exact List.getElem?_eq_getElem _
      refine ⟨by omega, by omega, trivial, fun hbl => ⟨by omega, by omega, ?_⟩, fun hbl => ?_⟩
      · rw [Int.toNat_natCast]
        have hcut : bs (y.extract 0 (y.size - 1)) = (bs y).take (y.size - 1) := by rw [bs_extract]; simp
        have hspl : bs y = (bs y).take (y.size - 1) ++ [(bs y)[y.size - 1]'(by omega)] := by
          rw [← take_succ_app (by omega), List.take_of_length_le (by omega)]
        refine ih _ ⟨?_, ?_, fun b hb2 => ?_⟩ ?_
        · rw [← bs_len, hcut, List.length_take]; omega
        · rw [← hm]
          unfold mTrim
          rw [hcut]
          conv => rhs; rw [hspl]
          rw [trimS_snoc]
          rw [blk_iff, ← hb]; exact hbl
        · rw [hcut] at hb2
          refine hh b ?_
          rw [hspl]
          cases hx : (bs y).take (y.size - 1) with
          | nil => rw [hx] at hb2; cases hb2
          | cons c r => rw [hx] at hb2; simpa using hb2
        · rw [← bs_len, hcut, List.length_take]; omega
      · rw [← hm]
        unfold mTrim
        rw [trimS_id hh]
        · rfl
        · intro b hb2
          rw [hlast] at hb2
          injection hb2 with hb2
          rw [← hb2]
          cases hx : blk (bs y)[y.size - 1] with
          | false => rfl
          | true =>
            rw [blk_iff, ← hb] at hx
            exact absurd hx hbl
    · rw [← hm]
      have : bs y = [] := List.eq_nil_of_length_eq_zero (by rw [bs_len]; omega)
      apply bs_inj
      unfold mTrim
      rw [this]; rfl
  intro L hL
  refine loopI hL (fun y => y.size ≤ a0.size ∧ mTrim y = mTrim a0) (fun y => y.size) (fun y ⟨hy, hm⟩ ih => ?_) a0 ⟨Nat.le_refl _, rfl⟩
  have hlen := bs_len y
  refine ⟨fun h0 => ?_, fun h0 => ?_⟩
  · have hpos : 0 < y.size := by omega
    have hb := bt_nat y 0 hpos
    have hcons : bs y = (bs y)[0]'(by omega) :: (bs y).drop 1 := by
      conv => lhs; rw [← List.drop_zero (l := bs y)]
      exact (List.getElem_cons_drop (h := by omega)).symm
    refine ⟨by omega, by omega, trivial, fun hbl => ⟨by omega, by omega, ?_⟩, fun hbl L2 hL2 => ?_⟩
    · have hcut : bs (y.extract ((1 : Int).toNat) y.size) = (bs y).drop 1 := by
        rw [bs_extract]
        exact List.take_of_length_le (by rw [List.length_drop, hlen]; omega)
      refine ih _ ⟨?_, ?_⟩ ?_
      · rw [← bs_len, hcut, List.length_drop]; omega
      · rw [← hm]
        unfold mTrim
        rw [hcut]
        conv => rhs; rw [hcons]
        rw [trimS_cons]
        rw [blk_iff, ← hb]; exact hbl
      · rw [← bs_len, hcut, List.length_drop]; omega
    · refine back y hy hm (fun b hb2 => ?_) L2 hL2
      rw [hcons] at hb2
      injection hb2 with hb2
      rw [← hb2]
      cases hx : blk (bs y)[0] with
      | false => rfl
      | true =>
        rw [blk_iff, ← hb] at hx
        exact absurd hx hbl
  · intro L2 hL2
    refine back y hy hm (fun b hb2 => ?_) L2 hL2
    have : bs y = [] := List.eq_nil_of_length_eq_zero (by omega)
    rw [this] at hb2; cases hb2

end Go.Ev
end
