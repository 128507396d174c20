/- A small verified machine for the operations of the given program, and plain laws of what its functions compute; without conditions of its own. Part 5. -/
import Derived.Test.YtmpoeecmjoklcaaDoorW3
import Derived.DataReads
import Derived.Lib.Join
import Derived.Lib.SlTrimSet
import Derived.Laws.IdiomStrings
import Derived.Lib.AtoiAllMem
import Derived.Lib.AtoiAllCases
import Derived.Lib.Split
import Derived.Test.YtmpoeecmjoklcaaDoorW2
import Derived.Sort.Walk0
import Derived.Lib.IndexBytes
import Derived.Lib.IndexLaws
import Derived.Deep.LoopGhost
import Derived.Tactics
import Derived.Tactics2
import Derived.WalkKit
import Derived.RowKit3
import Derived.WideLaws
import Derived.OwnWalk
import Derived.Laws.Slices
import Derived.Laws.Rows
import Derived.Laws.Cells
import Derived.Laws.BytesString
import Derived.Lib.ConvBytes
import Derived.Test.YtmpoeecmjoklcaaDoorShelf
import Derived.Shelf.Strings.SlTrimAscii
set_option linter.unusedVariables false
set_option linter.unusedSimpArgs false
section
/- Library functions: strings.Join, strings.Trim, strings.Cut, strings.IndexByte: contracts of the small machine. -/
set_option linter.unusedVariables false
namespace Go.Ev
open Go.RowKit
theorem res_bool {S : Nat → Prop} {col : Nat → Option Nat} {W : World} (x : Bool) : resR S col W false [(false, [.bool])] (x : caps [[L.bool]]) 0 [.bool x] := by
  simp only [resR]
  exact ⟨_, _, [.bool x], rfl, by simp only [outR]; exact ⟨_, _, rfl, rfl, rfl⟩, .inr rfl, rfl⟩
theorem cell_lt {w : World} {a : Addr} {v : Value} (h : w.cell? a = some v) : a.block < w.heap.size := by
  rcases Nat.lt_or_ge a.block w.heap.size with h' | h'
  · exact h'
  · unfold World.cell? at h
    rw [Array.getElem?_eq_none h'] at h
    simp at h
/-! ### strings.IndexByte -/
def indexByteCt (f : FuncId) : Ct := { f, ps := [.v false .ro [.str], .v false .ro [.int .u8]], rs := [(false, [.int .i64])], shared := false, pre := fun (x : S × Int) => pIndexByte x.1 x.2, F := fun (x : S × Int) => mIndexByte x.1 x.2 }
theorem indexByte_ct {P : Program} {f : FuncId} {w : World} (hf : FnIs P f)
    (hI : ∀ (s : ByteArray) (c : Int), Calls P f #[.string s, .int .u8 c] w fun e w' => e = .returned (.int .i64 (Lib.indexByte s.data.toList c.toNat.toUInt8)) ∧ w' = w) : CtAt P (indexByteCt f) w := by
  refine ct_lib hf fun vals x S hS ha hp => ?_
  obtain ⟨v, vs', hv, h1, h2⟩ := args_v ha
  obtain ⟨u, us', rfl, h3, h4⟩ := args_v h2
  have h4 := args_e h4
  subst h4
  have h1 : v = .string x.1 := h1
  have h3 : u = .int .u8 x.2 := h3
  subst h1; subst h3
  rw [arr_of hv]
  refine (hI x.1 x.2).mono fun e w' ⟨he, hw⟩ => ⟨[.int .i64 (mIndexByte x.1 x.2)], _, he, ?_, Or.inl rfl, fun S' => res_int _⟩
  rw [hw]; exact Below.refl _ _
/-! ### strings.Trim -/
def trimLCt (f : FuncId) : Ct := { f, ps := [.v false .ro [.str], .v false .ro [.str]], rs := [(false, [.str])], shared := false, pre := fun (x : S × S) => pTrimL x.1 x.2, F := fun (x : S × S) => mTrimL x.1 x.2 }
theorem trimL_ct {P : Program} {f : FuncId} {w : World} (hf : FnIs P f)
    (hI : ∀ (s cs : ByteArray), s.size ≤ 9223372036854775807 → cs.size < 4294967281 → (∀ (j : Nat) b, cs.data.toList[j]? = some b → b.toNat < 128) →
      Calls P f #[.string s, .string cs] w fun e w' => e = .returned (.string ⟨(Lib.trimS s.data.toList cs.data.toList).toArray⟩) ∧ Below w.heap.size w w') : CtAt P (trimLCt f) w := by
  refine ct_lib hf fun vals x S hS ha hp => ?_
  obtain ⟨v, vs', hv, h1, h2⟩ := args_v ha
  obtain ⟨u, us', rfl, h3, h4⟩ := args_v h2
  have h4 := args_e h4
  subst h4
  have h1 : v = .string x.1 := h1
  have h3 : u = .string x.2 := h3
  subst h1; subst h3
  rw [arr_of hv]
  have hp : x.1.size ≤ 1073741824 ∧ x.2 = lit [32, 9] := hp
  obtain ⟨hp1, hp2⟩ := hp
  have hall : ∀ b ∈ (lit [32, 9]).data.toList, b.toNat < 128 := by decide
  refine (hI x.1 x.2 (by omega) (by rw [hp2]; decide) (fun j b hb => by rw [hp2] at hb; exact hall b (List.mem_of_getElem? hb))).mono fun e w' ⟨he, hb⟩ => ⟨[.string (mTrimL x.1 x.2)], _, he, hb, Or.inl rfl, fun S' => res_str _⟩
/-! ### strings.Cut -/
def cutCt (f : FuncId) : Ct := { f, ps := [.v false .ro [.str], .v false .ro [.str]], rs := [(false, [.str]), (false, [.str]), (false, [.bool])], shared := false, pre := fun (x : S × S) => pCut x.1 x.2, F := fun (x : S × S) => mCut x.1 x.2 }
theorem cut_ct {P : Program} {f : FuncId} {w : World} (hf : FnIs P f)
    (hI : ∀ (s sep : ByteArray), s.size < 4294967281 →
      Calls P f #[.string s, .string sep] w fun e w' => e = .returned (.tuple #[.string ⟨(Lib.cut s.data.toList sep.data.toList).1.toArray⟩, .string ⟨(Lib.cut s.data.toList sep.data.toList).2.1.toArray⟩, .bool (Lib.cut s.data.toList sep.data.toList).2.2]) ∧ ∃ n, w' = w.drewN n) : CtAt P (cutCt f) w := by
  refine ct_lib hf fun vals x S hS ha hp => ?_
  obtain ⟨v, vs', hv, h1, h2⟩ := args_v ha
  obtain ⟨u, us', rfl, h3, h4⟩ := args_v h2
  have h4 := args_e h4
  subst h4
  have h1 : v = .string x.1 := h1
  have h3 : u = .string x.2 := h3
  subst h1; subst h3
  rw [arr_of hv]
  have hp : x.1.size ≤ 1073741824 := hp
  refine (hI x.1 x.2 (by omega)).mono fun e w' ⟨he, n, hw⟩ => ⟨[.string (mCut x.1 x.2).1, .string (mCut x.1 x.2).2.1, .bool (mCut x.1 x.2).2.2], _, he, ?_, Or.inr ⟨by simp, rfl⟩, fun S' => ?_⟩
  · rw [hw]
    exact ⟨rfl, rfl, rfl, Nat.le_refl _, fun _ _ => rfl⟩
  · simp only [cutCt, resR]
    refine ⟨_, _, [.string (mCut x.1 x.2).1], rfl, by simp only [outR]; exact ⟨_, _, rfl, rfl, rfl⟩, .inr rfl, ?_⟩
    refine ⟨_, _, [.string (mCut x.1 x.2).2.1], rfl, by simp only [outR]; exact ⟨_, _, rfl, rfl, rfl⟩, .inr rfl, ?_⟩
    exact ⟨_, _, [.bool (mCut x.1 x.2).2.2], rfl, by simp only [outR]; exact ⟨_, _, rfl, rfl, rfl⟩, .inr rfl, rfl⟩
/-! ### strings.Join -/
theorem joinL_tail (sep : S) : ∀ (x : S) (r : List S), bs (joinL sep (x :: r)) = bs x ++ Lib.joinTail (bs sep) (r.map bs)
  | x, [] => by simp [joinL, Lib.joinTail]
  | x, y :: r => by
    rw [joinL, bs_append, bs_append, joinL_tail sep y r]
    simp only [Lib.joinTail, List.map_cons, List.flatten_cons, List.append_assoc]
theorem mJoin_lib (xs : List S) (sep : S) : mJoin xs sep = ob (Lib.join (xs.map bs) (bs sep)) := by
  cases xs with
  | nil => rfl
  | cons x r =>
    refine bs_inj ?_
    rw [bs_ob, mJoin, joinL_tail, List.map_cons, Lib.join_cons]
theorem lens_sum : ∀ xs : List S, Lib.lens (xs.map bs) = sumN (xs.map fun x => x.size)
  | [] => rfl
  | x :: r => by
    have := lens_sum r
    unfold Lib.lens at this ⊢
    simp only [List.map_cons, List.sum_cons, sumN, bs_len] at this ⊢
    omega
theorem join_core {P : Program} {f : FuncId} {w : World} {S : Nat → Prop} (hS : ∀ b, S b → b < w.heap.size)
    (h0 : ∀ (a : Option Addr) (c : Nat) (sep : ByteArray), Calls P f #[.slice a 0 c, .string sep] w fun e w' => e = .returned (.string ⟨#[]⟩) ∧ w' = w)
    (hI : ∀ (bk o c : Nat) (xs : List ByteArray) (sep : ByteArray), (∀ (j : Nat) x, xs[j]? = some x → w.cell? ⟨bk, o + j, none⟩ = some (.string x)) → bk < w.heap.size → xs.length ≤ 140737488355328 → xs.length ≤ c → (Lib.join (xs.map (·.data.toList)) sep.data.toList).length ≤ 140737488355328 →
      Calls P f #[.slice (some ⟨bk, o, none⟩) xs.length c, .string sep] w fun e w' => e = .returned (.string ⟨(Lib.join (xs.map (·.data.toList)) sep.data.toList).toArray⟩) ∧ Below w.heap.size w w')
    (xs : List ByteArray) (sep : ByteArray) (hp : pJoin xs sep) (A : Option Addr) (cap : Nat) (cs : List Value) (hcap : xs.length ≤ cap) (hcl : cs.length = xs.length * 1)
    (hA : 0 < xs.length * 1 → ∃ ad, A = some ad ∧ S ad.block ∧ ∀ (j : Nat) (u : Value), cs[j]? = some u → w.cell? (ad.add j) = some u)
    (hx : ∀ (i : Nat) (y : ByteArray), xs[i]? = some y → (cs.drop (i * 1)).take 1 = [.string y]) :
    Calls P f #[.slice A xs.length cap, .string sep] w fun e w' => e = .returned (.string (mJoin xs sep)) ∧ Below w.heap.size w w' := by
  obtain ⟨hp1, hp2, hp3⟩ := hp
  by_cases hn : xs.length = 0
  · have : xs = [] := List.length_eq_zero_iff.1 hn
    subst this
    refine (h0 A cap sep).mono fun e w' ⟨he, hw⟩ => ⟨he, ?_⟩
    rw [hw]; exact Below.refl _ _
  · obtain ⟨ad, rfl, hb, hcells⟩ := hA (by omega)
    have hget : ∀ (j : Nat) (y : ByteArray), xs[j]? = some y → w.cell? (ad.add j) = some (.string y) := fun j y hj => by
      refine hcells j _ ?_
      have := congrArg (·[0]?) (hx j y hj)
      simpa [List.getElem?_take, List.getElem?_drop] using this
    have hx0 : xs[0]? = some (xs[0]'(by omega)) := List.getElem?_eq_getElem (by omega)
    have hsp := World.cell?_spot (hget 0 _ hx0)
    have hadd : ∀ j, ad.add j = ⟨ad.block, ad.off + j, none⟩ := fun j => by
      have : ad.spot = none := by
        rw [addr_zero] at hsp; exact hsp
      obtain ⟨b, o, s⟩ := ad
      simp only at this
      subst this
      unfold Addr.add
      split
      · rename_i h; subst h; rfl
      · rfl
    have had : ad = ⟨ad.block, ad.off, none⟩ := by have := hadd 0; rw [addr_zero] at this; exact this
    have hjl : (Lib.join (xs.map (·.data.toList)) sep.data.toList).length ≤ 140737488355328 := by
      cases xs with
      | nil => simp at hn
      | cons y r =>
        have h6 := Lib.join_length (bs y) (r.map bs) (bs sep)
        have h7 := lens_sum (y :: r)
        have h8 : (bs sep).length ≤ 16 := by rw [bs_len]; exact hp3
        have h9 : (bs sep).length * (r.map bs).length ≤ 16 * r.length := by rw [List.length_map]; exact Nat.mul_le_mul_right _ h8
        have h10 : (Lib.join ((y :: r).map bs) (bs sep)).length ≤ 140737488355328 := by
          rw [List.map_cons, h6]
          rw [List.map_cons] at h7
          simp only [List.length_cons] at hp1
          omega
        exact h10
    rw [had]
    refine (hI ad.block ad.off cap xs sep (fun j y hj => by rw [← hadd j]; exact hget j y hj) (hS _ hb) (by omega) hcap hjl).mono fun e w' ⟨he, hbel⟩ => ⟨?_, hbel⟩
    rw [he, mJoin_lib]; rfl
def joinCt (e : TypeId) (f : FuncId) : Ct := { f, ps := [.v false .ro [.list e [.str]], .v false .ro [.str]], rs := [(false, [.str])], shared := false, pre := fun (x : List S × S) => pJoin x.1 x.2, F := fun (x : List S × S) => mJoin x.1 x.2 }
theorem join_row {w : World} {S : Nat → Prop} {e : TypeId} {p : Col} {xs : List ByteArray} {v : Value} (h : repL (roRow w S) (.list e [.str]) p (xs : List (dens [L.str])) v) :
    ∃ (A : Option Addr) (cap : Nat) (cs : List Value), v = .slice A xs.length cap ∧ xs.length ≤ cap ∧ cs.length = xs.length * 1 ∧ (0 < xs.length * 1 → ∃ ad, A = some ad ∧ S ad.block ∧ ∀ (j : Nat) (u : Value), cs[j]? = some u → w.cell? (ad.add j) = some u) ∧
      ∀ (i : Nat) (y : ByteArray), xs[i]? = some y → (cs.drop (i * 1)).take 1 = [.string y] := by
  simp only [repL] at h
  obtain ⟨cs, ⟨A, cap, hv, hcap, hA⟩, hcl, hx⟩ := h
  refine ⟨A, cap, cs, hv, hcap, hcl, hA, fun i y hi => ?_⟩
  have h5 := hx i y hi
  simp only [repLs, repL] at h5
  obtain ⟨v, hv, rfl⟩ := h5
  exact hv
theorem join_ct {P : Program} {e : TypeId} {f : FuncId} {w : World} (hf : FnIs P f)
    (h0 : ∀ (a : Option Addr) (c : Nat) (sep : ByteArray), Calls P f #[.slice a 0 c, .string sep] w fun e w' => e = .returned (.string ⟨#[]⟩) ∧ w' = w)
    (hI : ∀ (bk o c : Nat) (xs : List ByteArray) (sep : ByteArray), (∀ (j : Nat) x, xs[j]? = some x → w.cell? ⟨bk, o + j, none⟩ = some (.string x)) → bk < w.heap.size → xs.length ≤ 140737488355328 → xs.length ≤ c → (Lib.join (xs.map (·.data.toList)) sep.data.toList).length ≤ 140737488355328 →
      Calls P f #[.slice (some ⟨bk, o, none⟩) xs.length c, .string sep] w fun e w' => e = .returned (.string ⟨(Lib.join (xs.map (·.data.toList)) sep.data.toList).toArray⟩) ∧ Below w.heap.size w w') : CtAt P (joinCt e f) w := by
  refine ct_lib hf fun vals x S hS ha hp => ?_
  obtain ⟨v, vs', hv, h1, h2⟩ := args_v ha
  obtain ⟨u, us', rfl, h3, h4⟩ := args_v h2
  have h4 := args_e h4
  subst h4
  have h3 : u = .string x.2 := h3
  subst h3
  obtain ⟨A, cap, cs, rfl, hcap, hcl, hA, hx⟩ := join_row (xs := x.1) h1
  rw [arr_of hv]
  exact (join_core hS h0 hI x.1 x.2 hp A cap cs hcap hcl hA hx).mono fun e w' ⟨he, hb⟩ => ⟨[.string (mJoin x.1 x.2)], _, he, hb, Or.inl rfl, fun S' => res_str _⟩
end Go.Ev
end

section
/- Library functions: strconv.Atoi, strings.TrimLeft, strings.Split: contracts of the small machine; what their variables hold. -/
set_option linter.unusedVariables false
namespace Go.Ev
open Go.RowKit
/-- A variable holds an error. -/
def ErrAt (g : Nat) (w : World) : Prop := ∃ ev, w.cell? ⟨g, 0, none⟩ = some ev ∧ (ev = .nilIface ∨ ∃ te pe, ev = .iface te pe)
theorem errAt_below {g : Nat} {w w' : World} (h : ErrAt g w) (hb : Below w.heap.size w w') : ErrAt g w' := by
  obtain ⟨ev, h1, h2⟩ := h
  exact ⟨ev, (hb.cell (cell_lt h1)).trans h1, h2⟩
/-- A variable holds a number. -/
def NumAt (g : Nat) (w : World) : Prop := ∃ m, w.cell? ⟨g, 0, none⟩ = some (.int .i64 m)
theorem numAt_below {g : Nat} {w w' : World} (h : NumAt g w) (hb : Below w.heap.size w w') : NumAt g w' := by
  obtain ⟨m, hm⟩ := h
  exact ⟨m, (hb.cell (cell_lt hm)).trans hm⟩
/-! ### strconv.Atoi -/
def atoiV (s : S) : Int := match Lib.atoiAll (bs s) with
  | .ok v => v
  | .«syntax» => 0
  | .range => Lib.atoiSat (bs s)
def mAtoi (s : S) : Int × Unit := (atoiV s, ())
def pAtoi (s : S) : Prop := sm s
def atoiCt (f : FuncId) : Ct := { f, ps := [.v false .ro [.str]], rs := [(false, [.int .i64]), (false, [])], shared := false, pre := fun (x : S) => pAtoi x, F := fun (x : S) => mAtoi x }
theorem res_any {S : Nat → Prop} {col : Nat → Option Nat} {W : World} {k : IntKind} (x : Int) (v : Value) : resR S col W false [(false, [.int k]), (false, [])] ((x, ()) : Int × Unit) 0 [.int k x, v] := by
  simp only [resR]
  refine ⟨_, _, [.int k x], rfl, by simp only [outR]; exact ⟨_, _, rfl, rfl, rfl⟩, .inr rfl, ?_⟩
  exact ⟨_, _, [], rfl, rfl, .inl rfl, rfl⟩
theorem atoi_ct {P : Program} {f : FuncId} {w : World} {gS gR : Nat} (hf : FnIs P f) (hS : ErrAt gS w) (hR : ErrAt gR w)
    (hok : ∀ (s : ByteArray), s.size ≤ 9223372036854775806 → ∀ v, Lib.atoiAll s.data.toList = .ok v → Calls P f #[.string s] w fun e w' => e = .returned (.tuple #[.int .i64 v, .nilIface]) ∧ Below w.heap.size w w')
    (hsy : ∀ (s : ByteArray), s.size ≤ 281474976710656 → Lib.atoiAll s.data.toList = .«syntax» → ∀ ev, w.cell? ⟨gS, 0, none⟩ = some ev → (ev = .nilIface ∨ ∃ te pe, ev = .iface te pe) → Calls P f #[.string s] w fun e w' => ∃ u, e = .returned (.tuple #[.int .i64 0, u]) ∧ Below w.heap.size w w')
    (hra : ∀ (s : ByteArray), s.size ≤ 281474976710656 → Lib.atoiAll s.data.toList = .range → ∀ ev, w.cell? ⟨gR, 0, none⟩ = some ev → (ev = .nilIface ∨ ∃ te pe, ev = .iface te pe) → Calls P f #[.string s] w fun e w' => ∃ u, e = .returned (.tuple #[.int .i64 (Lib.atoiSat s.data.toList), u]) ∧ Below w.heap.size w w') : CtAt P (atoiCt f) w := by
  refine ct_lib hf fun vals x S hSS ha hp => ?_
  obtain ⟨v, vs', hv, h1, h2⟩ := args_v ha
  have h2 := args_e h2
  subst h2
  have h1 : v = .string x := h1
  subst h1
  rw [arr_of hv]
  have hp : x.size ≤ 1073741824 := hp
  cases hat : Lib.atoiAll x.data.toList with
  | ok n =>
    refine (hok x (by omega) n hat).mono fun e w' ⟨he, hb⟩ => ⟨[.int .i64 n, .nilIface], _, he, hb, Or.inr ⟨by simp, rfl⟩, fun S' => ?_⟩
    have e : atoiV x = n := by unfold atoiV bs; rw [hat]
    show resR S' _ _ false [(false, [.int .i64]), (false, [])] ((atoiV x, ()) : Int × Unit) 0 _
    rw [e]
    exact res_any n _
  | «syntax» =>
    obtain ⟨ev, c1, c2⟩ := hS
    refine (hsy x (by omega) hat ev c1 c2).mono fun e w' ⟨u, he, hb⟩ => ⟨[.int .i64 0, u], _, he, hb, Or.inr ⟨by simp, rfl⟩, fun S' => ?_⟩
    have e : atoiV x = 0 := by unfold atoiV bs; rw [hat]
    show resR S' _ _ false [(false, [.int .i64]), (false, [])] ((atoiV x, ()) : Int × Unit) 0 _
    rw [e]
    exact res_any 0 _
  | range =>
    obtain ⟨ev, c1, c2⟩ := hR
    refine (hra x (by omega) hat ev c1 c2).mono fun e w' ⟨u, he, hb⟩ => ⟨[.int .i64 (Lib.atoiSat x.data.toList), u], _, he, hb, Or.inr ⟨by simp, rfl⟩, fun S' => ?_⟩
    have e : atoiV x = Lib.atoiSat x.data.toList := by unfold atoiV bs; rw [hat]
    show resR S' _ _ false [(false, [.int .i64]), (false, [])] ((atoiV x, ()) : Int × Unit) 0 _
    rw [e]
    exact res_any _ _
/-! ### strings.TrimLeft -/
def mTrimLeft (s cs : S) : S := ob (Lib.trimLeftB (bs s) 48)
def pTrimLeft (s cs : S) : Prop := sm s ∧ cs = lit [48]
def trimLeftCt (f : FuncId) : Ct := { f, ps := [.v false .ro [.str], .v false .ro [.str]], rs := [(false, [.str])], shared := false, pre := fun (x : S × S) => pTrimLeft x.1 x.2, F := fun (x : S × S) => mTrimLeft x.1 x.2 }
theorem trimLeft_ct {P : Program} {f : FuncId} {w : World} (hf : FnIs P f)
    (hI : ∀ s : ByteArray, Calls P f #[.string s, .string ⟨#[48]⟩] w fun e w' => e = .returned (.string ⟨(Lib.trimLeftB s.data.toList 48).toArray⟩) ∧ w' = w) : CtAt P (trimLeftCt f) w := by
  refine ct_lib hf fun vals x S hSS ha hp => ?_
  obtain ⟨v, vs', hv, h1, h2⟩ := args_v ha
  obtain ⟨v2, vs2, hv2, h3, h4⟩ := args_v h2
  have h4 := args_e h4
  subst h4; subst hv2
  have h1 : v = .string x.1 := h1
  have h3 : v2 = .string x.2 := h3
  subst h1; subst h3
  rw [arr_of hv]
  obtain ⟨hp1, hp2⟩ := (hp : sm x.1 ∧ x.2 = lit [48])
  rw [hp2]
  refine (hI x.1).mono fun e w' ⟨he, hw⟩ => ⟨[.string (mTrimLeft x.1 x.2)], _, he, ?_, Or.inl rfl, fun S' => res_str _⟩
  rw [hw]
  exact Below.refl _ _
/-! ### strings.Split -/
def mSplit (s sep : S) : List S := Lib.splitB sep 0 (Lib.countB s sep) s
def pSplit (s sep : S) : Prop := sm s ∧ sep = lit [32]
end Go.Ev
end

section
/- The plain library: what the functions of dates compute. -/
set_option linter.unusedVariables false
namespace Go.Ev
def mIsLeap (y : Int) : Bool := decide (y % 4 = 0) && (decide (y % 100 ≠ 0) || decide (y % 400 = 0))
def pIsLeap (y : Int) : Prop := 0 ≤ y
def mL4Months (y : Int) : List Int := if mIsLeap y = true then [31, 29, 31, 30, 31, 30, 31, 31, 30, 31, 30, 31] else [31, 28, 31, 30, 31, 30, 31, 31, 30, 31, 30, 31]
def pL4Months (y : Int) : Prop := 0 ≤ y
def mMonthDays (y m : Int) : Int := rx (mL4Months y) (m - 1)
def pMonthDays (y m : Int) : Prop := 0 ≤ y ∧ 1 ≤ m ∧ m ≤ 12
def mYearDays (y : Int) : Int := if mIsLeap y = true then 366 else 365
def pYearDays (y : Int) : Prop := 0 ≤ y
/-- Days of the first years from 1970 on; of the first months of a year. -/
def daysY : Nat → Int
  | 0 => 0
  | k + 1 => daysY k + mYearDays (1970 + (k : Int))
def daysM (y : Int) : Nat → Int
  | 0 => 0
  | k + 1 => daysM y k + mMonthDays y ((k : Int) + 1)
def mDaysOf (y m d : Int) : Int := if (mIn y 1970 2037 && mIn m 1 12 && mIn d 1 (mMonthDays y m)) = true then d - 1 + daysY (y - 1970).toNat + daysM y (m - 1).toNat else -1
def pDaysOf (y m d : Int) : Prop := True
def twoL (n : Nat) : List UInt8 := [UInt8.ofNat (48 + n / 10), UInt8.ofNat (48 + n % 10)]
def mTwo (n : Int) : S := ob (twoL n.toNat)
def pTwo (n : Int) : Prop := 0 ≤ n ∧ n ≤ 99
def mL4Two (n : Int) : S := mTwo n
def pL4Two (n : Int) : Prop := 0 ≤ n ∧ n ≤ 99
def weekL : List S := [(lit [84, 104, 117]), (lit [70, 114, 105]), (lit [83, 97, 116]), (lit [83, 117, 110]), (lit [77, 111, 110]), (lit [84, 117, 101]), (lit [87, 101, 100])]
def monthL : List S := [(lit [74, 97, 110]), (lit [70, 101, 98]), (lit [77, 97, 114]), (lit [65, 112, 114]), (lit [77, 97, 121]), (lit [74, 117, 110]), (lit [74, 117, 108]), (lit [65, 117, 103]), (lit [83, 101, 112]), (lit [79, 99, 116]), (lit [78, 111, 118]), (lit [68, 101, 99])]
def mMonths (_ : Unit) : List S := monthL
def pMonths (_ : Unit) : Prop := True
def yearL (y : Nat) : List UInt8 := [UInt8.ofNat (48 + y / 1000), UInt8.ofNat (48 + y / 100 % 10), UInt8.ofNat (48 + y / 10 % 10), UInt8.ofNat (48 + y % 10)]
/-- The text of a moment: the second, the year, the month's place, the day. -/
def showT (a y j d : Int) : S :=
  ((((((((((((((rx weekL (a / 86400 % 7)) ++ (lit [44, 32])) ++ mTwo d) ++ (lit [32])) ++ rx monthL j) ++ (lit [32])) ++ mDec y) ++ (lit [32])) ++ mTwo (a / 3600 % 24)) ++ (lit [58])) ++ mTwo (a / 60 % 60)) ++ (lit [58])) ++ mTwo (a % 60)) ++ (lit [32, 71, 77, 84]))
/-- A day's year, month, and day of the month. -/
def civil (n : Int) (k j : Nat) : Prop := k < 67 ∧ j < 12 ∧ daysY k + daysM (1970 + (k : Int)) j ≤ n ∧ n < daysY k + daysM (1970 + (k : Int)) (j + 1)
open Classical in
noncomputable def mShowDate (a : Int) : S :=
  if h : 0 ≤ a ∧ a ≤ 2000000000 ∧ ∃ p : Nat × Nat, civil (a / 86400) p.1 p.2 then
    showT a (1970 + ((Classical.choose h.2.2).1 : Int)) ((Classical.choose h.2.2).2 : Int) (a / 86400 - daysY (Classical.choose h.2.2).1 - daysM (1970 + ((Classical.choose h.2.2).1 : Int)) (Classical.choose h.2.2).2 + 1)
  else lit []
def pShowDate (a : Int) : Prop := in64 a
end Go.Ev
end

section
/- What the functions of dates come to: printed by a program of this session's own (EwShow) out of the small machine. -/
set_option linter.unusedVariables false
namespace Go.Ev

def s_impl_DaysOf (a0 : Int) (a1 : Int) (a2 : Int) (Q : (Int → Prop)) : Prop :=
  pIn a0 1970 2037 ∧
  (¬ ((mIn a0 1970 2037) = true) →
    (Q (-1))) ∧
  (¬ (¬ ((mIn a0 1970 2037) = true)) →
    pIn a1 1 12 ∧
    (¬ ((mIn a1 1 12) = true) →
      (Q (-1))) ∧
    (¬ (¬ ((mIn a1 1 12) = true)) →
      pMonthDays a0 a1 ∧
      pIn a2 1 (mMonthDays a0 a1) ∧
      (¬ ((mIn a2 1 (mMonthDays a0 a1)) = true) →
        (Q (-1))) ∧
      (¬ (¬ ((mIn a2 1 (mMonthDays a0 a1)) = true)) →
        (∀ L0 : ((Int × Int) → Prop),
          ((
              (∀ y1 : (Int × Int),
                ((
                    (y1.2 < a0 →
                      pYearDays y1.2 ∧
                      (L0 ((IntKind.i64.wrap (y1.1 + (mYearDays y1.2))), (IntKind.i64.wrap (y1.2 + 1))))) ∧
                    (¬ (y1.2 < a0) →
                      (∀ L2 : ((Int × Int) → Prop),
                        ((
                            (∀ y3 : (Int × Int),
                              ((
                                  (y3.2 < a1 →
                                    pMonthDays a0 y3.2 ∧
                                    (L2 ((IntKind.i64.wrap (y3.1 + (mMonthDays a0 y3.2))), (IntKind.i64.wrap (y3.2 + 1))))) ∧
                                  (¬ (y3.2 < a1) →
                                    (Q y3.1))
                                ) →
                                (L2 y3)))
                          ) →
                          (L2 (y1.1, 1)))))
                  ) →
                  (L0 y1)))
            ) →
            (L0 ((IntKind.i64.wrap (a2 - 1)), 1970)))))))

def s_impl_IsLeap (a0 : Int) (Q : (Bool → Prop)) : Prop :=
  (4 : Int) ≠ 0 ∧
  ((a0.tmod 4) = 0 →
    (100 : Int) ≠ 0 ∧
    ((a0.tmod 100) ≠ 0 →
      (Q true)) ∧
    (¬ ((a0.tmod 100) ≠ 0) →
      (400 : Int) ≠ 0 ∧
      (Q (decide ((a0.tmod 400) = 0))))) ∧
  (¬ ((a0.tmod 4) = 0) →
    (400 : Int) ≠ 0 ∧
    (Q (decide ((a0.tmod 400) = 0))))

def s_impl_ShowDate (a0 : Int) (Q : (S → Prop)) : Prop :=
  pIn a0 0 2000000000 ∧
  (¬ ((mIn a0 0 2000000000) = true) →
    (Q (lit []))) ∧
  (¬ (¬ ((mIn a0 0 2000000000) = true)) →
    (86400 : Int) ≠ 0 ∧
    (86400 : Int) ≠ 0 ∧
    (7 : Int) ≠ 0 ∧
    0 ≤ ((IntKind.i64.wrap (a0.tdiv 86400)).tmod 7) ∧
    ((IntKind.i64.wrap (a0.tdiv 86400)).tmod 7) < (weekL.length : Int) ∧
    (∀ L0 : ((Int × Int) → Prop),
      ((
          (∀ y1 : (Int × Int),
            ((
                pYearDays y1.2 ∧
                ((mYearDays y1.2) ≤ y1.1 →
                  pYearDays y1.2 ∧
                  (L0 ((IntKind.i64.wrap (y1.1 - (mYearDays y1.2))), (IntKind.i64.wrap (y1.2 + 1))))) ∧
                (¬ ((mYearDays y1.2) ≤ y1.1) →
                  (∀ L2 : ((Int × Int) → Prop),
                    ((
                        (∀ y3 : (Int × Int),
                          ((
                              pMonthDays y1.2 y3.2 ∧
                              ((mMonthDays y1.2 y3.2) ≤ y3.1 →
                                pMonthDays y1.2 y3.2 ∧
                                (L2 ((IntKind.i64.wrap (y3.1 - (mMonthDays y1.2 y3.2))), (IntKind.i64.wrap (y3.2 + 1))))) ∧
                              (¬ ((mMonthDays y1.2 y3.2) ≤ y3.1) →
                                (rx weekL ((IntKind.i64.wrap (a0.tdiv 86400)).tmod 7)).size + (lit [44, 32]).size ≤ 9223372036854775807 ∧
                                pTwo (IntKind.i64.wrap (y3.1 + 1)) ∧
                                ((rx weekL ((IntKind.i64.wrap (a0.tdiv 86400)).tmod 7)) ++ (lit [44, 32])).size + (mTwo (IntKind.i64.wrap (y3.1 + 1))).size ≤ 9223372036854775807 ∧
                                (((rx weekL ((IntKind.i64.wrap (a0.tdiv 86400)).tmod 7)) ++ (lit [44, 32])) ++ (mTwo (IntKind.i64.wrap (y3.1 + 1)))).size + (lit [32]).size ≤ 9223372036854775807 ∧
                                pMonths () ∧
                                0 ≤ (IntKind.i64.wrap (y3.2 - 1)) ∧
                                (IntKind.i64.wrap (y3.2 - 1)) < (monthL.length : Int) ∧
                                ((((rx weekL ((IntKind.i64.wrap (a0.tdiv 86400)).tmod 7)) ++ (lit [44, 32])) ++ (mTwo (IntKind.i64.wrap (y3.1 + 1)))) ++ (lit [32])).size + (rx monthL (IntKind.i64.wrap (y3.2 - 1))).size ≤ 9223372036854775807 ∧
                                (((((rx weekL ((IntKind.i64.wrap (a0.tdiv 86400)).tmod 7)) ++ (lit [44, 32])) ++ (mTwo (IntKind.i64.wrap (y3.1 + 1)))) ++ (lit [32])) ++ (rx monthL (IntKind.i64.wrap (y3.2 - 1)))).size + (lit [32]).size ≤ 9223372036854775807 ∧
                                pItoa y1.2 ∧
                                ((((((rx weekL ((IntKind.i64.wrap (a0.tdiv 86400)).tmod 7)) ++ (lit [44, 32])) ++ (mTwo (IntKind.i64.wrap (y3.1 + 1)))) ++ (lit [32])) ++ (rx monthL (IntKind.i64.wrap (y3.2 - 1)))) ++ (lit [32])).size + (mItoa y1.2).size ≤ 9223372036854775807 ∧
                                (((((((rx weekL ((IntKind.i64.wrap (a0.tdiv 86400)).tmod 7)) ++ (lit [44, 32])) ++ (mTwo (IntKind.i64.wrap (y3.1 + 1)))) ++ (lit [32])) ++ (rx monthL (IntKind.i64.wrap (y3.2 - 1)))) ++ (lit [32])) ++ (mItoa y1.2)).size + (lit [32]).size ≤ 9223372036854775807 ∧
                                (3600 : Int) ≠ 0 ∧
                                pTwo (IntKind.i64.wrap ((a0.tmod 86400).tdiv 3600)) ∧
                                ((((((((rx weekL ((IntKind.i64.wrap (a0.tdiv 86400)).tmod 7)) ++ (lit [44, 32])) ++ (mTwo (IntKind.i64.wrap (y3.1 + 1)))) ++ (lit [32])) ++ (rx monthL (IntKind.i64.wrap (y3.2 - 1)))) ++ (lit [32])) ++ (mItoa y1.2)) ++ (lit [32])).size + (mTwo (IntKind.i64.wrap ((a0.tmod 86400).tdiv 3600))).size ≤ 9223372036854775807 ∧
                                (((((((((rx weekL ((IntKind.i64.wrap (a0.tdiv 86400)).tmod 7)) ++ (lit [44, 32])) ++ (mTwo (IntKind.i64.wrap (y3.1 + 1)))) ++ (lit [32])) ++ (rx monthL (IntKind.i64.wrap (y3.2 - 1)))) ++ (lit [32])) ++ (mItoa y1.2)) ++ (lit [32])) ++ (mTwo (IntKind.i64.wrap ((a0.tmod 86400).tdiv 3600)))).size + (lit [58]).size ≤ 9223372036854775807 ∧
                                (60 : Int) ≠ 0 ∧
                                (60 : Int) ≠ 0 ∧
                                pTwo ((IntKind.i64.wrap ((a0.tmod 86400).tdiv 60)).tmod 60) ∧
                                ((((((((((rx weekL ((IntKind.i64.wrap (a0.tdiv 86400)).tmod 7)) ++ (lit [44, 32])) ++ (mTwo (IntKind.i64.wrap (y3.1 + 1)))) ++ (lit [32])) ++ (rx monthL (IntKind.i64.wrap (y3.2 - 1)))) ++ (lit [32])) ++ (mItoa y1.2)) ++ (lit [32])) ++ (mTwo (IntKind.i64.wrap ((a0.tmod 86400).tdiv 3600)))) ++ (lit [58])).size + (mTwo ((IntKind.i64.wrap ((a0.tmod 86400).tdiv 60)).tmod 60)).size ≤ 9223372036854775807 ∧
                                (((((((((((rx weekL ((IntKind.i64.wrap (a0.tdiv 86400)).tmod 7)) ++ (lit [44, 32])) ++ (mTwo (IntKind.i64.wrap (y3.1 + 1)))) ++ (lit [32])) ++ (rx monthL (IntKind.i64.wrap (y3.2 - 1)))) ++ (lit [32])) ++ (mItoa y1.2)) ++ (lit [32])) ++ (mTwo (IntKind.i64.wrap ((a0.tmod 86400).tdiv 3600)))) ++ (lit [58])) ++ (mTwo ((IntKind.i64.wrap ((a0.tmod 86400).tdiv 60)).tmod 60))).size + (lit [58]).size ≤ 9223372036854775807 ∧
                                (60 : Int) ≠ 0 ∧
                                pTwo ((a0.tmod 86400).tmod 60) ∧
                                ((((((((((((rx weekL ((IntKind.i64.wrap (a0.tdiv 86400)).tmod 7)) ++ (lit [44, 32])) ++ (mTwo (IntKind.i64.wrap (y3.1 + 1)))) ++ (lit [32])) ++ (rx monthL (IntKind.i64.wrap (y3.2 - 1)))) ++ (lit [32])) ++ (mItoa y1.2)) ++ (lit [32])) ++ (mTwo (IntKind.i64.wrap ((a0.tmod 86400).tdiv 3600)))) ++ (lit [58])) ++ (mTwo ((IntKind.i64.wrap ((a0.tmod 86400).tdiv 60)).tmod 60))) ++ (lit [58])).size + (mTwo ((a0.tmod 86400).tmod 60)).size ≤ 9223372036854775807 ∧
                                (((((((((((((rx weekL ((IntKind.i64.wrap (a0.tdiv 86400)).tmod 7)) ++ (lit [44, 32])) ++ (mTwo (IntKind.i64.wrap (y3.1 + 1)))) ++ (lit [32])) ++ (rx monthL (IntKind.i64.wrap (y3.2 - 1)))) ++ (lit [32])) ++ (mItoa y1.2)) ++ (lit [32])) ++ (mTwo (IntKind.i64.wrap ((a0.tmod 86400).tdiv 3600)))) ++ (lit [58])) ++ (mTwo ((IntKind.i64.wrap ((a0.tmod 86400).tdiv 60)).tmod 60))) ++ (lit [58])) ++ (mTwo ((a0.tmod 86400).tmod 60))).size + (lit [32, 71, 77, 84]).size ≤ 9223372036854775807 ∧
                                (Q ((((((((((((((rx weekL ((IntKind.i64.wrap (a0.tdiv 86400)).tmod 7)) ++ (lit [44, 32])) ++ (mTwo (IntKind.i64.wrap (y3.1 + 1)))) ++ (lit [32])) ++ (rx monthL (IntKind.i64.wrap (y3.2 - 1)))) ++ (lit [32])) ++ (mItoa y1.2)) ++ (lit [32])) ++ (mTwo (IntKind.i64.wrap ((a0.tmod 86400).tdiv 3600)))) ++ (lit [58])) ++ (mTwo ((IntKind.i64.wrap ((a0.tmod 86400).tdiv 60)).tmod 60))) ++ (lit [58])) ++ (mTwo ((a0.tmod 86400).tmod 60))) ++ (lit [32, 71, 77, 84]))))
                            ) →
                            (L2 y3)))
                      ) →
                      (L2 (y1.1, 1)))))
              ) →
              (L0 y1)))
        ) →
        (L0 ((IntKind.i64.wrap (a0.tdiv 86400)), 1970)))))

def s_impl_monthDays (a0 : Int) (a1 : Int) (Q : (Int → Prop)) : Prop :=
  (a1 = 2 →
    pIsLeap a0 ∧
    ((mIsLeap a0) = true →
      (Q 29)) ∧
    (¬ ((mIsLeap a0) = true) →
      0 ≤ (IntKind.i64.wrap (a1 - 1)) ∧
      (IntKind.i64.wrap (a1 - 1)) < ([31, 28, 31, 30, 31, 30, 31, 31, 30, 31, 30, 31].length : Int) ∧
      (Q (rx [31, 28, 31, 30, 31, 30, 31, 31, 30, 31, 30, 31] (IntKind.i64.wrap (a1 - 1)))))) ∧
  (¬ (a1 = 2) →
    0 ≤ (IntKind.i64.wrap (a1 - 1)) ∧
    (IntKind.i64.wrap (a1 - 1)) < ([31, 28, 31, 30, 31, 30, 31, 31, 30, 31, 30, 31].length : Int) ∧
    (Q (rx [31, 28, 31, 30, 31, 30, 31, 31, 30, 31, 30, 31] (IntKind.i64.wrap (a1 - 1)))))

def s_impl_months (Q : ((List S) → Prop)) : Prop :=
  (Q monthL)

def s_impl_two (a0 : Int) (Q : (S → Prop)) : Prop :=
  pItoa (IntKind.i64.wrap (100 + a0)) ∧
  (0 : Int) ≤ 1 ∧
  1 ≤ ((mItoa (IntKind.i64.wrap (100 + a0))).size : Int) ∧
  (Q ((mItoa (IntKind.i64.wrap (100 + a0))).extract ((1 : Int).toNat) (mItoa (IntKind.i64.wrap (100 + a0))).size))

def s_impl_yearDays (a0 : Int) (Q : (Int → Prop)) : Prop :=
  pIsLeap a0 ∧
  ((mIsLeap a0) = true →
    (Q 366)) ∧
  (¬ ((mIsLeap a0) = true) →
    (Q 365))

def s_spec_DaysOf (a0 : Int) (a1 : Int) (a2 : Int) (Q : (Int → Prop)) : Prop :=
  pIn a0 1970 2037 ∧
  (¬ ((mIn a0 1970 2037) = true) →
    (Q (-1))) ∧
  (¬ (¬ ((mIn a0 1970 2037) = true)) →
    pIn a1 1 12 ∧
    (¬ ((mIn a1 1 12) = true) →
      (Q (-1))) ∧
    (¬ (¬ ((mIn a1 1 12) = true)) →
      pL4Months a0 ∧
      0 ≤ (IntKind.i64.wrap (a1 - 1)) ∧
      (IntKind.i64.wrap (a1 - 1)) < ((mL4Months a0).length : Int) ∧
      pIn a2 1 (rx (mL4Months a0) (IntKind.i64.wrap (a1 - 1))) ∧
      (¬ ((mIn a2 1 (rx (mL4Months a0) (IntKind.i64.wrap (a1 - 1)))) = true) →
        (Q (-1))) ∧
      (¬ (¬ ((mIn a2 1 (rx (mL4Months a0) (IntKind.i64.wrap (a1 - 1)))) = true)) →
        (∀ L0 : ((Int × Int) → Prop),
          ((
              (∀ y1 : (Int × Int),
                ((
                    (y1.2 < a0 →
                      pIsLeap y1.2 ∧
                      ((mIsLeap y1.2) = true →
                        (L0 ((IntKind.i64.wrap ((IntKind.i64.wrap (y1.1 + 365)) + 1)), (IntKind.i64.wrap (y1.2 + 1))))) ∧
                      (¬ ((mIsLeap y1.2) = true) →
                        (L0 ((IntKind.i64.wrap (y1.1 + 365)), (IntKind.i64.wrap (y1.2 + 1)))))) ∧
                    (¬ (y1.2 < a0) →
                      (∀ L2 : ((Int × Int) → Prop),
                        ((
                            (∀ y3 : (Int × Int),
                              ((
                                  (y3.2 < a1 →
                                    pL4Months a0 ∧
                                    0 ≤ (IntKind.i64.wrap (y3.2 - 1)) ∧
                                    (IntKind.i64.wrap (y3.2 - 1)) < ((mL4Months a0).length : Int) ∧
                                    (L2 ((IntKind.i64.wrap (y3.1 + (rx (mL4Months a0) (IntKind.i64.wrap (y3.2 - 1))))), (IntKind.i64.wrap (y3.2 + 1))))) ∧
                                  (¬ (y3.2 < a1) →
                                    (Q y3.1))
                                ) →
                                (L2 y3)))
                          ) →
                          (L2 (y1.1, 1)))))
                  ) →
                  (L0 y1)))
            ) →
            (L0 ((IntKind.i64.wrap (a2 - 1)), 1970)))))))

def s_spec_IsLeap (a0 : Int) (Q : (Bool → Prop)) : Prop :=
  (4 : Int) ≠ 0 ∧
  ((a0.tmod 4) = 0 →
    (100 : Int) ≠ 0 ∧
    ((a0.tmod 100) ≠ 0 →
      (Q true)) ∧
    (¬ ((a0.tmod 100) ≠ 0) →
      (400 : Int) ≠ 0 ∧
      (Q (decide ((a0.tmod 400) = 0))))) ∧
  (¬ ((a0.tmod 4) = 0) →
    (Q false))

def s_spec_ShowDate (a0 : Int) (Q : (S → Prop)) : Prop :=
  pIn a0 0 2000000000 ∧
  (¬ ((mIn a0 0 2000000000) = true) →
    (Q (lit []))) ∧
  (¬ (¬ ((mIn a0 0 2000000000) = true)) →
    (86400 : Int) ≠ 0 ∧
    (∀ L0 : (Int → Prop),
      ((
          (∀ y1 : Int,
            ((
                (y1 < 2037 →
                  pDaysOf (IntKind.i64.wrap (y1 + 1)) 1 1 ∧
                  ((mDaysOf (IntKind.i64.wrap (y1 + 1)) 1 1) ≤ (IntKind.i64.wrap (a0.tdiv 86400)) →
                    (L0 (IntKind.i64.wrap (y1 + 1)))) ∧
                  (¬ ((mDaysOf (IntKind.i64.wrap (y1 + 1)) 1 1) ≤ (IntKind.i64.wrap (a0.tdiv 86400))) →
                    (∀ L2 : (Int → Prop),
                      ((
                          (∀ y3 : Int,
                            ((
                                (y3 < 12 →
                                  pDaysOf y1 (IntKind.i64.wrap (y3 + 1)) 1 ∧
                                  ((mDaysOf y1 (IntKind.i64.wrap (y3 + 1)) 1) ≤ (IntKind.i64.wrap (a0.tdiv 86400)) →
                                    (L2 (IntKind.i64.wrap (y3 + 1)))) ∧
                                  (¬ ((mDaysOf y1 (IntKind.i64.wrap (y3 + 1)) 1) ≤ (IntKind.i64.wrap (a0.tdiv 86400))) →
                                    pDaysOf y1 y3 1 ∧
                                    (7 : Int) ≠ 0 ∧
                                    0 ≤ ((IntKind.i64.wrap (a0.tdiv 86400)).tmod 7) ∧
                                    ((IntKind.i64.wrap (a0.tdiv 86400)).tmod 7) < (weekL.length : Int) ∧
                                    0 ≤ (IntKind.i64.wrap (y3 - 1)) ∧
                                    (IntKind.i64.wrap (y3 - 1)) < (monthL.length : Int) ∧
                                    (rx weekL ((IntKind.i64.wrap (a0.tdiv 86400)).tmod 7)).size + (lit [44, 32]).size ≤ 9223372036854775807 ∧
                                    pL4Two (IntKind.i64.wrap ((IntKind.i64.wrap ((IntKind.i64.wrap (a0.tdiv 86400)) - (mDaysOf y1 y3 1))) + 1)) ∧
                                    ((rx weekL ((IntKind.i64.wrap (a0.tdiv 86400)).tmod 7)) ++ (lit [44, 32])).size + (mL4Two (IntKind.i64.wrap ((IntKind.i64.wrap ((IntKind.i64.wrap (a0.tdiv 86400)) - (mDaysOf y1 y3 1))) + 1))).size ≤ 9223372036854775807 ∧
                                    (((rx weekL ((IntKind.i64.wrap (a0.tdiv 86400)).tmod 7)) ++ (lit [44, 32])) ++ (mL4Two (IntKind.i64.wrap ((IntKind.i64.wrap ((IntKind.i64.wrap (a0.tdiv 86400)) - (mDaysOf y1 y3 1))) + 1)))).size + (lit [32]).size ≤ 9223372036854775807 ∧
                                    ((((rx weekL ((IntKind.i64.wrap (a0.tdiv 86400)).tmod 7)) ++ (lit [44, 32])) ++ (mL4Two (IntKind.i64.wrap ((IntKind.i64.wrap ((IntKind.i64.wrap (a0.tdiv 86400)) - (mDaysOf y1 y3 1))) + 1)))) ++ (lit [32])).size + (rx monthL (IntKind.i64.wrap (y3 - 1))).size ≤ 9223372036854775807 ∧
                                    (((((rx weekL ((IntKind.i64.wrap (a0.tdiv 86400)).tmod 7)) ++ (lit [44, 32])) ++ (mL4Two (IntKind.i64.wrap ((IntKind.i64.wrap ((IntKind.i64.wrap (a0.tdiv 86400)) - (mDaysOf y1 y3 1))) + 1)))) ++ (lit [32])) ++ (rx monthL (IntKind.i64.wrap (y3 - 1)))).size + (lit [32]).size ≤ 9223372036854775807 ∧
                                    pDec y1 ∧
                                    ((((((rx weekL ((IntKind.i64.wrap (a0.tdiv 86400)).tmod 7)) ++ (lit [44, 32])) ++ (mL4Two (IntKind.i64.wrap ((IntKind.i64.wrap ((IntKind.i64.wrap (a0.tdiv 86400)) - (mDaysOf y1 y3 1))) + 1)))) ++ (lit [32])) ++ (rx monthL (IntKind.i64.wrap (y3 - 1)))) ++ (lit [32])).size + (mDec y1).size ≤ 9223372036854775807 ∧
                                    (((((((rx weekL ((IntKind.i64.wrap (a0.tdiv 86400)).tmod 7)) ++ (lit [44, 32])) ++ (mL4Two (IntKind.i64.wrap ((IntKind.i64.wrap ((IntKind.i64.wrap (a0.tdiv 86400)) - (mDaysOf y1 y3 1))) + 1)))) ++ (lit [32])) ++ (rx monthL (IntKind.i64.wrap (y3 - 1)))) ++ (lit [32])) ++ (mDec y1)).size + (lit [32]).size ≤ 9223372036854775807 ∧
                                    (3600 : Int) ≠ 0 ∧
                                    (24 : Int) ≠ 0 ∧
                                    pL4Two ((IntKind.i64.wrap (a0.tdiv 3600)).tmod 24) ∧
                                    ((((((((rx weekL ((IntKind.i64.wrap (a0.tdiv 86400)).tmod 7)) ++ (lit [44, 32])) ++ (mL4Two (IntKind.i64.wrap ((IntKind.i64.wrap ((IntKind.i64.wrap (a0.tdiv 86400)) - (mDaysOf y1 y3 1))) + 1)))) ++ (lit [32])) ++ (rx monthL (IntKind.i64.wrap (y3 - 1)))) ++ (lit [32])) ++ (mDec y1)) ++ (lit [32])).size + (mL4Two ((IntKind.i64.wrap (a0.tdiv 3600)).tmod 24)).size ≤ 9223372036854775807 ∧
                                    (((((((((rx weekL ((IntKind.i64.wrap (a0.tdiv 86400)).tmod 7)) ++ (lit [44, 32])) ++ (mL4Two (IntKind.i64.wrap ((IntKind.i64.wrap ((IntKind.i64.wrap (a0.tdiv 86400)) - (mDaysOf y1 y3 1))) + 1)))) ++ (lit [32])) ++ (rx monthL (IntKind.i64.wrap (y3 - 1)))) ++ (lit [32])) ++ (mDec y1)) ++ (lit [32])) ++ (mL4Two ((IntKind.i64.wrap (a0.tdiv 3600)).tmod 24))).size + (lit [58]).size ≤ 9223372036854775807 ∧
                                    (60 : Int) ≠ 0 ∧
                                    (60 : Int) ≠ 0 ∧
                                    pL4Two ((IntKind.i64.wrap (a0.tdiv 60)).tmod 60) ∧
                                    ((((((((((rx weekL ((IntKind.i64.wrap (a0.tdiv 86400)).tmod 7)) ++ (lit [44, 32])) ++ (mL4Two (IntKind.i64.wrap ((IntKind.i64.wrap ((IntKind.i64.wrap (a0.tdiv 86400)) - (mDaysOf y1 y3 1))) + 1)))) ++ (lit [32])) ++ (rx monthL (IntKind.i64.wrap (y3 - 1)))) ++ (lit [32])) ++ (mDec y1)) ++ (lit [32])) ++ (mL4Two ((IntKind.i64.wrap (a0.tdiv 3600)).tmod 24))) ++ (lit [58])).size + (mL4Two ((IntKind.i64.wrap (a0.tdiv 60)).tmod 60)).size ≤ 9223372036854775807 ∧
                                    (((((((((((rx weekL ((IntKind.i64.wrap (a0.tdiv 86400)).tmod 7)) ++ (lit [44, 32])) ++ (mL4Two (IntKind.i64.wrap ((IntKind.i64.wrap ((IntKind.i64.wrap (a0.tdiv 86400)) - (mDaysOf y1 y3 1))) + 1)))) ++ (lit [32])) ++ (rx monthL (IntKind.i64.wrap (y3 - 1)))) ++ (lit [32])) ++ (mDec y1)) ++ (lit [32])) ++ (mL4Two ((IntKind.i64.wrap (a0.tdiv 3600)).tmod 24))) ++ (lit [58])) ++ (mL4Two ((IntKind.i64.wrap (a0.tdiv 60)).tmod 60))).size + (lit [58]).size ≤ 9223372036854775807 ∧
                                    (60 : Int) ≠ 0 ∧
                                    pL4Two (a0.tmod 60) ∧
                                    ((((((((((((rx weekL ((IntKind.i64.wrap (a0.tdiv 86400)).tmod 7)) ++ (lit [44, 32])) ++ (mL4Two (IntKind.i64.wrap ((IntKind.i64.wrap ((IntKind.i64.wrap (a0.tdiv 86400)) - (mDaysOf y1 y3 1))) + 1)))) ++ (lit [32])) ++ (rx monthL (IntKind.i64.wrap (y3 - 1)))) ++ (lit [32])) ++ (mDec y1)) ++ (lit [32])) ++ (mL4Two ((IntKind.i64.wrap (a0.tdiv 3600)).tmod 24))) ++ (lit [58])) ++ (mL4Two ((IntKind.i64.wrap (a0.tdiv 60)).tmod 60))) ++ (lit [58])).size + (mL4Two (a0.tmod 60)).size ≤ 9223372036854775807 ∧
                                    (((((((((((((rx weekL ((IntKind.i64.wrap (a0.tdiv 86400)).tmod 7)) ++ (lit [44, 32])) ++ (mL4Two (IntKind.i64.wrap ((IntKind.i64.wrap ((IntKind.i64.wrap (a0.tdiv 86400)) - (mDaysOf y1 y3 1))) + 1)))) ++ (lit [32])) ++ (rx monthL (IntKind.i64.wrap (y3 - 1)))) ++ (lit [32])) ++ (mDec y1)) ++ (lit [32])) ++ (mL4Two ((IntKind.i64.wrap (a0.tdiv 3600)).tmod 24))) ++ (lit [58])) ++ (mL4Two ((IntKind.i64.wrap (a0.tdiv 60)).tmod 60))) ++ (lit [58])) ++ (mL4Two (a0.tmod 60))).size + (lit [32, 71, 77, 84]).size ≤ 9223372036854775807 ∧
                                    (Q ((((((((((((((rx weekL ((IntKind.i64.wrap (a0.tdiv 86400)).tmod 7)) ++ (lit [44, 32])) ++ (mL4Two (IntKind.i64.wrap ((IntKind.i64.wrap ((IntKind.i64.wrap (a0.tdiv 86400)) - (mDaysOf y1 y3 1))) + 1)))) ++ (lit [32])) ++ (rx monthL (IntKind.i64.wrap (y3 - 1)))) ++ (lit [32])) ++ (mDec y1)) ++ (lit [32])) ++ (mL4Two ((IntKind.i64.wrap (a0.tdiv 3600)).tmod 24))) ++ (lit [58])) ++ (mL4Two ((IntKind.i64.wrap (a0.tdiv 60)).tmod 60))) ++ (lit [58])) ++ (mL4Two (a0.tmod 60))) ++ (lit [32, 71, 77, 84]))))) ∧
                                (¬ (y3 < 12) →
                                  pDaysOf y1 y3 1 ∧
                                  (7 : Int) ≠ 0 ∧
                                  0 ≤ ((IntKind.i64.wrap (a0.tdiv 86400)).tmod 7) ∧
                                  ((IntKind.i64.wrap (a0.tdiv 86400)).tmod 7) < (weekL.length : Int) ∧
                                  0 ≤ (IntKind.i64.wrap (y3 - 1)) ∧
                                  (IntKind.i64.wrap (y3 - 1)) < (monthL.length : Int) ∧
                                  (rx weekL ((IntKind.i64.wrap (a0.tdiv 86400)).tmod 7)).size + (lit [44, 32]).size ≤ 9223372036854775807 ∧
                                  pL4Two (IntKind.i64.wrap ((IntKind.i64.wrap ((IntKind.i64.wrap (a0.tdiv 86400)) - (mDaysOf y1 y3 1))) + 1)) ∧
                                  ((rx weekL ((IntKind.i64.wrap (a0.tdiv 86400)).tmod 7)) ++ (lit [44, 32])).size + (mL4Two (IntKind.i64.wrap ((IntKind.i64.wrap ((IntKind.i64.wrap (a0.tdiv 86400)) - (mDaysOf y1 y3 1))) + 1))).size ≤ 9223372036854775807 ∧
                                  (((rx weekL ((IntKind.i64.wrap (a0.tdiv 86400)).tmod 7)) ++ (lit [44, 32])) ++ (mL4Two (IntKind.i64.wrap ((IntKind.i64.wrap ((IntKind.i64.wrap (a0.tdiv 86400)) - (mDaysOf y1 y3 1))) + 1)))).size + (lit [32]).size ≤ 9223372036854775807 ∧
                                  ((((rx weekL ((IntKind.i64.wrap (a0.tdiv 86400)).tmod 7)) ++ (lit [44, 32])) ++ (mL4Two (IntKind.i64.wrap ((IntKind.i64.wrap ((IntKind.i64.wrap (a0.tdiv 86400)) - (mDaysOf y1 y3 1))) + 1)))) ++ (lit [32])).size + (rx monthL (IntKind.i64.wrap (y3 - 1))).size ≤ 9223372036854775807 ∧
                                  (((((rx weekL ((IntKind.i64.wrap (a0.tdiv 86400)).tmod 7)) ++ (lit [44, 32])) ++ (mL4Two (IntKind.i64.wrap ((IntKind.i64.wrap ((IntKind.i64.wrap (a0.tdiv 86400)) - (mDaysOf y1 y3 1))) + 1)))) ++ (lit [32])) ++ (rx monthL (IntKind.i64.wrap (y3 - 1)))).size + (lit [32]).size ≤ 9223372036854775807 ∧
                                  pDec y1 ∧
                                  ((((((rx weekL ((IntKind.i64.wrap (a0.tdiv 86400)).tmod 7)) ++ (lit [44, 32])) ++ (mL4Two (IntKind.i64.wrap ((IntKind.i64.wrap ((IntKind.i64.wrap (a0.tdiv 86400)) - (mDaysOf y1 y3 1))) + 1)))) ++ (lit [32])) ++ (rx monthL (IntKind.i64.wrap (y3 - 1)))) ++ (lit [32])).size + (mDec y1).size ≤ 9223372036854775807 ∧
                                  (((((((rx weekL ((IntKind.i64.wrap (a0.tdiv 86400)).tmod 7)) ++ (lit [44, 32])) ++ (mL4Two (IntKind.i64.wrap ((IntKind.i64.wrap ((IntKind.i64.wrap (a0.tdiv 86400)) - (mDaysOf y1 y3 1))) + 1)))) ++ (lit [32])) ++ (rx monthL (IntKind.i64.wrap (y3 - 1)))) ++ (lit [32])) ++ (mDec y1)).size + (lit [32]).size ≤ 9223372036854775807 ∧
                                  (3600 : Int) ≠ 0 ∧
                                  (24 : Int) ≠ 0 ∧
                                  pL4Two ((IntKind.i64.wrap (a0.tdiv 3600)).tmod 24) ∧
                                  ((((((((rx weekL ((IntKind.i64.wrap (a0.tdiv 86400)).tmod 7)) ++ (lit [44, 32])) ++ (mL4Two (IntKind.i64.wrap ((IntKind.i64.wrap ((IntKind.i64.wrap (a0.tdiv 86400)) - (mDaysOf y1 y3 1))) + 1)))) ++ (lit [32])) ++ (rx monthL (IntKind.i64.wrap (y3 - 1)))) ++ (lit [32])) ++ (mDec y1)) ++ (lit [32])).size + (mL4Two ((IntKind.i64.wrap (a0.tdiv 3600)).tmod 24)).size ≤ 9223372036854775807 ∧
                                  (((((((((rx weekL ((IntKind.i64.wrap (a0.tdiv 86400)).tmod 7)) ++ (lit [44, 32])) ++ (mL4Two (IntKind.i64.wrap ((IntKind.i64.wrap ((IntKind.i64.wrap (a0.tdiv 86400)) - (mDaysOf y1 y3 1))) + 1)))) ++ (lit [32])) ++ (rx monthL (IntKind.i64.wrap (y3 - 1)))) ++ (lit [32])) ++ (mDec y1)) ++ (lit [32])) ++ (mL4Two ((IntKind.i64.wrap (a0.tdiv 3600)).tmod 24))).size + (lit [58]).size ≤ 9223372036854775807 ∧
                                  (60 : Int) ≠ 0 ∧
                                  (60 : Int) ≠ 0 ∧
                                  pL4Two ((IntKind.i64.wrap (a0.tdiv 60)).tmod 60) ∧
                                  ((((((((((rx weekL ((IntKind.i64.wrap (a0.tdiv 86400)).tmod 7)) ++ (lit [44, 32])) ++ (mL4Two (IntKind.i64.wrap ((IntKind.i64.wrap ((IntKind.i64.wrap (a0.tdiv 86400)) - (mDaysOf y1 y3 1))) + 1)))) ++ (lit [32])) ++ (rx monthL (IntKind.i64.wrap (y3 - 1)))) ++ (lit [32])) ++ (mDec y1)) ++ (lit [32])) ++ (mL4Two ((IntKind.i64.wrap (a0.tdiv 3600)).tmod 24))) ++ (lit [58])).size + (mL4Two ((IntKind.i64.wrap (a0.tdiv 60)).tmod 60)).size ≤ 9223372036854775807 ∧
                                  (((((((((((rx weekL ((IntKind.i64.wrap (a0.tdiv 86400)).tmod 7)) ++ (lit [44, 32])) ++ (mL4Two (IntKind.i64.wrap ((IntKind.i64.wrap ((IntKind.i64.wrap (a0.tdiv 86400)) - (mDaysOf y1 y3 1))) + 1)))) ++ (lit [32])) ++ (rx monthL (IntKind.i64.wrap (y3 - 1)))) ++ (lit [32])) ++ (mDec y1)) ++ (lit [32])) ++ (mL4Two ((IntKind.i64.wrap (a0.tdiv 3600)).tmod 24))) ++ (lit [58])) ++ (mL4Two ((IntKind.i64.wrap (a0.tdiv 60)).tmod 60))).size + (lit [58]).size ≤ 9223372036854775807 ∧
                                  (60 : Int) ≠ 0 ∧
                                  pL4Two (a0.tmod 60) ∧
                                  ((((((((((((rx weekL ((IntKind.i64.wrap (a0.tdiv 86400)).tmod 7)) ++ (lit [44, 32])) ++ (mL4Two (IntKind.i64.wrap ((IntKind.i64.wrap ((IntKind.i64.wrap (a0.tdiv 86400)) - (mDaysOf y1 y3 1))) + 1)))) ++ (lit [32])) ++ (rx monthL (IntKind.i64.wrap (y3 - 1)))) ++ (lit [32])) ++ (mDec y1)) ++ (lit [32])) ++ (mL4Two ((IntKind.i64.wrap (a0.tdiv 3600)).tmod 24))) ++ (lit [58])) ++ (mL4Two ((IntKind.i64.wrap (a0.tdiv 60)).tmod 60))) ++ (lit [58])).size + (mL4Two (a0.tmod 60)).size ≤ 9223372036854775807 ∧
                                  (((((((((((((rx weekL ((IntKind.i64.wrap (a0.tdiv 86400)).tmod 7)) ++ (lit [44, 32])) ++ (mL4Two (IntKind.i64.wrap ((IntKind.i64.wrap ((IntKind.i64.wrap (a0.tdiv 86400)) - (mDaysOf y1 y3 1))) + 1)))) ++ (lit [32])) ++ (rx monthL (IntKind.i64.wrap (y3 - 1)))) ++ (lit [32])) ++ (mDec y1)) ++ (lit [32])) ++ (mL4Two ((IntKind.i64.wrap (a0.tdiv 3600)).tmod 24))) ++ (lit [58])) ++ (mL4Two ((IntKind.i64.wrap (a0.tdiv 60)).tmod 60))) ++ (lit [58])) ++ (mL4Two (a0.tmod 60))).size + (lit [32, 71, 77, 84]).size ≤ 9223372036854775807 ∧
                                  (Q ((((((((((((((rx weekL ((IntKind.i64.wrap (a0.tdiv 86400)).tmod 7)) ++ (lit [44, 32])) ++ (mL4Two (IntKind.i64.wrap ((IntKind.i64.wrap ((IntKind.i64.wrap (a0.tdiv 86400)) - (mDaysOf y1 y3 1))) + 1)))) ++ (lit [32])) ++ (rx monthL (IntKind.i64.wrap (y3 - 1)))) ++ (lit [32])) ++ (mDec y1)) ++ (lit [32])) ++ (mL4Two ((IntKind.i64.wrap (a0.tdiv 3600)).tmod 24))) ++ (lit [58])) ++ (mL4Two ((IntKind.i64.wrap (a0.tdiv 60)).tmod 60))) ++ (lit [58])) ++ (mL4Two (a0.tmod 60))) ++ (lit [32, 71, 77, 84]))))
                              ) →
                              (L2 y3)))
                        ) →
                        (L2 1))))) ∧
                (¬ (y1 < 2037) →
                  (∀ L4 : (Int → Prop),
                    ((
                        (∀ y5 : Int,
                          ((
                              (y5 < 12 →
                                pDaysOf y1 (IntKind.i64.wrap (y5 + 1)) 1 ∧
                                ((mDaysOf y1 (IntKind.i64.wrap (y5 + 1)) 1) ≤ (IntKind.i64.wrap (a0.tdiv 86400)) →
                                  (L4 (IntKind.i64.wrap (y5 + 1)))) ∧
                                (¬ ((mDaysOf y1 (IntKind.i64.wrap (y5 + 1)) 1) ≤ (IntKind.i64.wrap (a0.tdiv 86400))) →
                                  pDaysOf y1 y5 1 ∧
                                  (7 : Int) ≠ 0 ∧
                                  0 ≤ ((IntKind.i64.wrap (a0.tdiv 86400)).tmod 7) ∧
                                  ((IntKind.i64.wrap (a0.tdiv 86400)).tmod 7) < (weekL.length : Int) ∧
                                  0 ≤ (IntKind.i64.wrap (y5 - 1)) ∧
                                  (IntKind.i64.wrap (y5 - 1)) < (monthL.length : Int) ∧
                                  (rx weekL ((IntKind.i64.wrap (a0.tdiv 86400)).tmod 7)).size + (lit [44, 32]).size ≤ 9223372036854775807 ∧
                                  pL4Two (IntKind.i64.wrap ((IntKind.i64.wrap ((IntKind.i64.wrap (a0.tdiv 86400)) - (mDaysOf y1 y5 1))) + 1)) ∧
                                  ((rx weekL ((IntKind.i64.wrap (a0.tdiv 86400)).tmod 7)) ++ (lit [44, 32])).size + (mL4Two (IntKind.i64.wrap ((IntKind.i64.wrap ((IntKind.i64.wrap (a0.tdiv 86400)) - (mDaysOf y1 y5 1))) + 1))).size ≤ 9223372036854775807 ∧
                                  (((rx weekL ((IntKind.i64.wrap (a0.tdiv 86400)).tmod 7)) ++ (lit [44, 32])) ++ (mL4Two (IntKind.i64.wrap ((IntKind.i64.wrap ((IntKind.i64.wrap (a0.tdiv 86400)) - (mDaysOf y1 y5 1))) + 1)))).size + (lit [32]).size ≤ 9223372036854775807 ∧
                                  ((((rx weekL ((IntKind.i64.wrap (a0.tdiv 86400)).tmod 7)) ++ (lit [44, 32])) ++ (mL4Two (IntKind.i64.wrap ((IntKind.i64.wrap ((IntKind.i64.wrap (a0.tdiv 86400)) - (mDaysOf y1 y5 1))) + 1)))) ++ (lit [32])).size + (rx monthL (IntKind.i64.wrap (y5 - 1))).size ≤ 9223372036854775807 ∧
                                  (((((rx weekL ((IntKind.i64.wrap (a0.tdiv 86400)).tmod 7)) ++ (lit [44, 32])) ++ (mL4Two (IntKind.i64.wrap ((IntKind.i64.wrap ((IntKind.i64.wrap (a0.tdiv 86400)) - (mDaysOf y1 y5 1))) + 1)))) ++ (lit [32])) ++ (rx monthL (IntKind.i64.wrap (y5 - 1)))).size + (lit [32]).size ≤ 9223372036854775807 ∧
                                  pDec y1 ∧
                                  ((((((rx weekL ((IntKind.i64.wrap (a0.tdiv 86400)).tmod 7)) ++ (lit [44, 32])) ++ (mL4Two (IntKind.i64.wrap ((IntKind.i64.wrap ((IntKind.i64.wrap (a0.tdiv 86400)) - (mDaysOf y1 y5 1))) + 1)))) ++ (lit [32])) ++ (rx monthL (IntKind.i64.wrap (y5 - 1)))) ++ (lit [32])).size + (mDec y1).size ≤ 9223372036854775807 ∧
                                  (((((((rx weekL ((IntKind.i64.wrap (a0.tdiv 86400)).tmod 7)) ++ (lit [44, 32])) ++ (mL4Two (IntKind.i64.wrap ((IntKind.i64.wrap ((IntKind.i64.wrap (a0.tdiv 86400)) - (mDaysOf y1 y5 1))) + 1)))) ++ (lit [32])) ++ (rx monthL (IntKind.i64.wrap (y5 - 1)))) ++ (lit [32])) ++ (mDec y1)).size + (lit [32]).size ≤ 9223372036854775807 ∧
                                  (3600 : Int) ≠ 0 ∧
                                  (24 : Int) ≠ 0 ∧
                                  pL4Two ((IntKind.i64.wrap (a0.tdiv 3600)).tmod 24) ∧
                                  ((((((((rx weekL ((IntKind.i64.wrap (a0.tdiv 86400)).tmod 7)) ++ (lit [44, 32])) ++ (mL4Two (IntKind.i64.wrap ((IntKind.i64.wrap ((IntKind.i64.wrap (a0.tdiv 86400)) - (mDaysOf y1 y5 1))) + 1)))) ++ (lit [32])) ++ (rx monthL (IntKind.i64.wrap (y5 - 1)))) ++ (lit [32])) ++ (mDec y1)) ++ (lit [32])).size + (mL4Two ((IntKind.i64.wrap (a0.tdiv 3600)).tmod 24)).size ≤ 9223372036854775807 ∧
                                  (((((((((rx weekL ((IntKind.i64.wrap (a0.tdiv 86400)).tmod 7)) ++ (lit [44, 32])) ++ (mL4Two (IntKind.i64.wrap ((IntKind.i64.wrap ((IntKind.i64.wrap (a0.tdiv 86400)) - (mDaysOf y1 y5 1))) + 1)))) ++ (lit [32])) ++ (rx monthL (IntKind.i64.wrap (y5 - 1)))) ++ (lit [32])) ++ (mDec y1)) ++ (lit [32])) ++ (mL4Two ((IntKind.i64.wrap (a0.tdiv 3600)).tmod 24))).size + (lit [58]).size ≤ 9223372036854775807 ∧
                                  (60 : Int) ≠ 0 ∧
                                  (60 : Int) ≠ 0 ∧
                                  pL4Two ((IntKind.i64.wrap (a0.tdiv 60)).tmod 60) ∧
                                  ((((((((((rx weekL ((IntKind.i64.wrap (a0.tdiv 86400)).tmod 7)) ++ (lit [44, 32])) ++ (mL4Two (IntKind.i64.wrap ((IntKind.i64.wrap ((IntKind.i64.wrap (a0.tdiv 86400)) - (mDaysOf y1 y5 1))) + 1)))) ++ (lit [32])) ++ (rx monthL (IntKind.i64.wrap (y5 - 1)))) ++ (lit [32])) ++ (mDec y1)) ++ (lit [32])) ++ (mL4Two ((IntKind.i64.wrap (a0.tdiv 3600)).tmod 24))) ++ (lit [58])).size + (mL4Two ((IntKind.i64.wrap (a0.tdiv 60)).tmod 60)).size ≤ 9223372036854775807 ∧
                                  (((((((((((rx weekL ((IntKind.i64.wrap (a0.tdiv 86400)).tmod 7)) ++ (lit [44, 32])) ++ (mL4Two (IntKind.i64.wrap ((IntKind.i64.wrap ((IntKind.i64.wrap (a0.tdiv 86400)) - (mDaysOf y1 y5 1))) + 1)))) ++ (lit [32])) ++ (rx monthL (IntKind.i64.wrap (y5 - 1)))) ++ (lit [32])) ++ (mDec y1)) ++ (lit [32])) ++ (mL4Two ((IntKind.i64.wrap (a0.tdiv 3600)).tmod 24))) ++ (lit [58])) ++ (mL4Two ((IntKind.i64.wrap (a0.tdiv 60)).tmod 60))).size + (lit [58]).size ≤ 9223372036854775807 ∧
                                  (60 : Int) ≠ 0 ∧
                                  pL4Two (a0.tmod 60) ∧
                                  ((((((((((((rx weekL ((IntKind.i64.wrap (a0.tdiv 86400)).tmod 7)) ++ (lit [44, 32])) ++ (mL4Two (IntKind.i64.wrap ((IntKind.i64.wrap ((IntKind.i64.wrap (a0.tdiv 86400)) - (mDaysOf y1 y5 1))) + 1)))) ++ (lit [32])) ++ (rx monthL (IntKind.i64.wrap (y5 - 1)))) ++ (lit [32])) ++ (mDec y1)) ++ (lit [32])) ++ (mL4Two ((IntKind.i64.wrap (a0.tdiv 3600)).tmod 24))) ++ (lit [58])) ++ (mL4Two ((IntKind.i64.wrap (a0.tdiv 60)).tmod 60))) ++ (lit [58])).size + (mL4Two (a0.tmod 60)).size ≤ 9223372036854775807 ∧
                                  (((((((((((((rx weekL ((IntKind.i64.wrap (a0.tdiv 86400)).tmod 7)) ++ (lit [44, 32])) ++ (mL4Two (IntKind.i64.wrap ((IntKind.i64.wrap ((IntKind.i64.wrap (a0.tdiv 86400)) - (mDaysOf y1 y5 1))) + 1)))) ++ (lit [32])) ++ (rx monthL (IntKind.i64.wrap (y5 - 1)))) ++ (lit [32])) ++ (mDec y1)) ++ (lit [32])) ++ (mL4Two ((IntKind.i64.wrap (a0.tdiv 3600)).tmod 24))) ++ (lit [58])) ++ (mL4Two ((IntKind.i64.wrap (a0.tdiv 60)).tmod 60))) ++ (lit [58])) ++ (mL4Two (a0.tmod 60))).size + (lit [32, 71, 77, 84]).size ≤ 9223372036854775807 ∧
                                  (Q ((((((((((((((rx weekL ((IntKind.i64.wrap (a0.tdiv 86400)).tmod 7)) ++ (lit [44, 32])) ++ (mL4Two (IntKind.i64.wrap ((IntKind.i64.wrap ((IntKind.i64.wrap (a0.tdiv 86400)) - (mDaysOf y1 y5 1))) + 1)))) ++ (lit [32])) ++ (rx monthL (IntKind.i64.wrap (y5 - 1)))) ++ (lit [32])) ++ (mDec y1)) ++ (lit [32])) ++ (mL4Two ((IntKind.i64.wrap (a0.tdiv 3600)).tmod 24))) ++ (lit [58])) ++ (mL4Two ((IntKind.i64.wrap (a0.tdiv 60)).tmod 60))) ++ (lit [58])) ++ (mL4Two (a0.tmod 60))) ++ (lit [32, 71, 77, 84]))))) ∧
                              (¬ (y5 < 12) →
                                pDaysOf y1 y5 1 ∧
                                (7 : Int) ≠ 0 ∧
                                0 ≤ ((IntKind.i64.wrap (a0.tdiv 86400)).tmod 7) ∧
                                ((IntKind.i64.wrap (a0.tdiv 86400)).tmod 7) < (weekL.length : Int) ∧
                                0 ≤ (IntKind.i64.wrap (y5 - 1)) ∧
                                (IntKind.i64.wrap (y5 - 1)) < (monthL.length : Int) ∧
                                (rx weekL ((IntKind.i64.wrap (a0.tdiv 86400)).tmod 7)).size + (lit [44, 32]).size ≤ 9223372036854775807 ∧
                                pL4Two (IntKind.i64.wrap ((IntKind.i64.wrap ((IntKind.i64.wrap (a0.tdiv 86400)) - (mDaysOf y1 y5 1))) + 1)) ∧
                                ((rx weekL ((IntKind.i64.wrap (a0.tdiv 86400)).tmod 7)) ++ (lit [44, 32])).size + (mL4Two (IntKind.i64.wrap ((IntKind.i64.wrap ((IntKind.i64.wrap (a0.tdiv 86400)) - (mDaysOf y1 y5 1))) + 1))).size ≤ 9223372036854775807 ∧
                                (((rx weekL ((IntKind.i64.wrap (a0.tdiv 86400)).tmod 7)) ++ (lit [44, 32])) ++ (mL4Two (IntKind.i64.wrap ((IntKind.i64.wrap ((IntKind.i64.wrap (a0.tdiv 86400)) - (mDaysOf y1 y5 1))) + 1)))).size + (lit [32]).size ≤ 9223372036854775807 ∧
                                ((((rx weekL ((IntKind.i64.wrap (a0.tdiv 86400)).tmod 7)) ++ (lit [44, 32])) ++ (mL4Two (IntKind.i64.wrap ((IntKind.i64.wrap ((IntKind.i64.wrap (a0.tdiv 86400)) - (mDaysOf y1 y5 1))) + 1)))) ++ (lit [32])).size + (rx monthL (IntKind.i64.wrap (y5 - 1))).size ≤ 9223372036854775807 ∧
                                (((((rx weekL ((IntKind.i64.wrap (a0.tdiv 86400)).tmod 7)) ++ (lit [44, 32])) ++ (mL4Two (IntKind.i64.wrap ((IntKind.i64.wrap ((IntKind.i64.wrap (a0.tdiv 86400)) - (mDaysOf y1 y5 1))) + 1)))) ++ (lit [32])) ++ (rx monthL (IntKind.i64.wrap (y5 - 1)))).size + (lit [32]).size ≤ 9223372036854775807 ∧
                                pDec y1 ∧
                                ((((((rx weekL ((IntKind.i64.wrap (a0.tdiv 86400)).tmod 7)) ++ (lit [44, 32])) ++ (mL4Two (IntKind.i64.wrap ((IntKind.i64.wrap ((IntKind.i64.wrap (a0.tdiv 86400)) - (mDaysOf y1 y5 1))) + 1)))) ++ (lit [32])) ++ (rx monthL (IntKind.i64.wrap (y5 - 1)))) ++ (lit [32])).size + (mDec y1).size ≤ 9223372036854775807 ∧
                                (((((((rx weekL ((IntKind.i64.wrap (a0.tdiv 86400)).tmod 7)) ++ (lit [44, 32])) ++ (mL4Two (IntKind.i64.wrap ((IntKind.i64.wrap ((IntKind.i64.wrap (a0.tdiv 86400)) - (mDaysOf y1 y5 1))) + 1)))) ++ (lit [32])) ++ (rx monthL (IntKind.i64.wrap (y5 - 1)))) ++ (lit [32])) ++ (mDec y1)).size + (lit [32]).size ≤ 9223372036854775807 ∧
                                (3600 : Int) ≠ 0 ∧
                                (24 : Int) ≠ 0 ∧
                                pL4Two ((IntKind.i64.wrap (a0.tdiv 3600)).tmod 24) ∧
                                ((((((((rx weekL ((IntKind.i64.wrap (a0.tdiv 86400)).tmod 7)) ++ (lit [44, 32])) ++ (mL4Two (IntKind.i64.wrap ((IntKind.i64.wrap ((IntKind.i64.wrap (a0.tdiv 86400)) - (mDaysOf y1 y5 1))) + 1)))) ++ (lit [32])) ++ (rx monthL (IntKind.i64.wrap (y5 - 1)))) ++ (lit [32])) ++ (mDec y1)) ++ (lit [32])).size + (mL4Two ((IntKind.i64.wrap (a0.tdiv 3600)).tmod 24)).size ≤ 9223372036854775807 ∧
                                (((((((((rx weekL ((IntKind.i64.wrap (a0.tdiv 86400)).tmod 7)) ++ (lit [44, 32])) ++ (mL4Two (IntKind.i64.wrap ((IntKind.i64.wrap ((IntKind.i64.wrap (a0.tdiv 86400)) - (mDaysOf y1 y5 1))) + 1)))) ++ (lit [32])) ++ (rx monthL (IntKind.i64.wrap (y5 - 1)))) ++ (lit [32])) ++ (mDec y1)) ++ (lit [32])) ++ (mL4Two ((IntKind.i64.wrap (a0.tdiv 3600)).tmod 24))).size + (lit [58]).size ≤ 9223372036854775807 ∧
                                (60 : Int) ≠ 0 ∧
                                (60 : Int) ≠ 0 ∧
                                pL4Two ((IntKind.i64.wrap (a0.tdiv 60)).tmod 60) ∧
                                ((((((((((rx weekL ((IntKind.i64.wrap (a0.tdiv 86400)).tmod 7)) ++ (lit [44, 32])) ++ (mL4Two (IntKind.i64.wrap ((IntKind.i64.wrap ((IntKind.i64.wrap (a0.tdiv 86400)) - (mDaysOf y1 y5 1))) + 1)))) ++ (lit [32])) ++ (rx monthL (IntKind.i64.wrap (y5 - 1)))) ++ (lit [32])) ++ (mDec y1)) ++ (lit [32])) ++ (mL4Two ((IntKind.i64.wrap (a0.tdiv 3600)).tmod 24))) ++ (lit [58])).size + (mL4Two ((IntKind.i64.wrap (a0.tdiv 60)).tmod 60)).size ≤ 9223372036854775807 ∧
                                (((((((((((rx weekL ((IntKind.i64.wrap (a0.tdiv 86400)).tmod 7)) ++ (lit [44, 32])) ++ (mL4Two (IntKind.i64.wrap ((IntKind.i64.wrap ((IntKind.i64.wrap (a0.tdiv 86400)) - (mDaysOf y1 y5 1))) + 1)))) ++ (lit [32])) ++ (rx monthL (IntKind.i64.wrap (y5 - 1)))) ++ (lit [32])) ++ (mDec y1)) ++ (lit [32])) ++ (mL4Two ((IntKind.i64.wrap (a0.tdiv 3600)).tmod 24))) ++ (lit [58])) ++ (mL4Two ((IntKind.i64.wrap (a0.tdiv 60)).tmod 60))).size + (lit [58]).size ≤ 9223372036854775807 ∧
                                (60 : Int) ≠ 0 ∧
                                pL4Two (a0.tmod 60) ∧
                                ((((((((((((rx weekL ((IntKind.i64.wrap (a0.tdiv 86400)).tmod 7)) ++ (lit [44, 32])) ++ (mL4Two (IntKind.i64.wrap ((IntKind.i64.wrap ((IntKind.i64.wrap (a0.tdiv 86400)) - (mDaysOf y1 y5 1))) + 1)))) ++ (lit [32])) ++ (rx monthL (IntKind.i64.wrap (y5 - 1)))) ++ (lit [32])) ++ (mDec y1)) ++ (lit [32])) ++ (mL4Two ((IntKind.i64.wrap (a0.tdiv 3600)).tmod 24))) ++ (lit [58])) ++ (mL4Two ((IntKind.i64.wrap (a0.tdiv 60)).tmod 60))) ++ (lit [58])).size + (mL4Two (a0.tmod 60)).size ≤ 9223372036854775807 ∧
                                (((((((((((((rx weekL ((IntKind.i64.wrap (a0.tdiv 86400)).tmod 7)) ++ (lit [44, 32])) ++ (mL4Two (IntKind.i64.wrap ((IntKind.i64.wrap ((IntKind.i64.wrap (a0.tdiv 86400)) - (mDaysOf y1 y5 1))) + 1)))) ++ (lit [32])) ++ (rx monthL (IntKind.i64.wrap (y5 - 1)))) ++ (lit [32])) ++ (mDec y1)) ++ (lit [32])) ++ (mL4Two ((IntKind.i64.wrap (a0.tdiv 3600)).tmod 24))) ++ (lit [58])) ++ (mL4Two ((IntKind.i64.wrap (a0.tdiv 60)).tmod 60))) ++ (lit [58])) ++ (mL4Two (a0.tmod 60))).size + (lit [32, 71, 77, 84]).size ≤ 9223372036854775807 ∧
                                (Q ((((((((((((((rx weekL ((IntKind.i64.wrap (a0.tdiv 86400)).tmod 7)) ++ (lit [44, 32])) ++ (mL4Two (IntKind.i64.wrap ((IntKind.i64.wrap ((IntKind.i64.wrap (a0.tdiv 86400)) - (mDaysOf y1 y5 1))) + 1)))) ++ (lit [32])) ++ (rx monthL (IntKind.i64.wrap (y5 - 1)))) ++ (lit [32])) ++ (mDec y1)) ++ (lit [32])) ++ (mL4Two ((IntKind.i64.wrap (a0.tdiv 3600)).tmod 24))) ++ (lit [58])) ++ (mL4Two ((IntKind.i64.wrap (a0.tdiv 60)).tmod 60))) ++ (lit [58])) ++ (mL4Two (a0.tmod 60))) ++ (lit [32, 71, 77, 84]))))
                            ) →
                            (L4 y5)))
                      ) →
                      (L4 1))))
              ) →
              (L0 y1)))
        ) →
        (L0 1970))))

def s_spec_l4Months (a0 : Int) (Q : ((List Int) → Prop)) : Prop :=
  pIsLeap a0 ∧
  ((mIsLeap a0) = true →
    (Q [31, 29, 31, 30, 31, 30, 31, 31, 30, 31, 30, 31])) ∧
  (¬ ((mIsLeap a0) = true) →
    (Q [31, 28, 31, 30, 31, 30, 31, 31, 30, 31, 30, 31]))

def s_spec_l4Two (a0 : Int) (Q : (S → Prop)) : Prop :=
  (10 : Int) ≠ 0 ∧
  (10 : Int) ≠ 0 ∧
  (10 : Int) ≠ 0 ∧
  (Q (strOf [(IntKind.u8.wrap (IntKind.i64.wrap (48 + ((IntKind.i64.wrap (a0.tdiv 10)).tmod 10)))), (IntKind.u8.wrap (IntKind.i64.wrap (48 + (a0.tmod 10))))]))

end Go.Ev
end

section
/- Laws of the plain library: the calendar. -/
set_option linter.unusedVariables false
namespace Go.Ev
theorem tmodI {n k : Int} (h : 0 ≤ n) : n.tmod k = n % k := Int.tmod_eq_emod_of_nonneg h
theorem tdivI {n k : Int} (h : 0 ≤ n) : n.tdiv k = n / k := Int.tdiv_eq_ediv_of_nonneg h
def monthsB (b : Bool) : List Int := if b = true then [31, 29, 31, 30, 31, 30, 31, 31, 30, 31, 30, 31] else [31, 28, 31, 30, 31, 30, 31, 31, 30, 31, 30, 31]
theorem monthDays_tab : ∀ (b : Bool) (m : Fin 12), 28 ≤ rx (monthsB b) ((m.val : Nat) : Int) ∧ rx (monthsB b) ((m.val : Nat) : Int) ≤ 31 := by decide +kernel
theorem monthDays_range (y : Int) {m : Int} (h1 : 1 ≤ m) (h2 : m ≤ 12) : 28 ≤ mMonthDays y m ∧ mMonthDays y m ≤ 31 := by
  have := monthDays_tab (mIsLeap y) ⟨(m - 1).toNat, by omega⟩
  simp only at this
  rw [show (((m - 1).toNat : Nat) : Int) = m - 1 by omega] at this
  exact this
theorem yearDays_range (y : Int) : 365 ≤ mYearDays y ∧ mYearDays y ≤ 366 := by
  unfold mYearDays
  split <;> omega
theorem months_len (y : Int) : (mL4Months y).length = 12 := by unfold mL4Months; split <;> rfl
theorem daysM_tab : ∀ b : Bool, 0 + rx (monthsB b) 0 + rx (monthsB b) 1 + rx (monthsB b) 2 + rx (monthsB b) 3 + rx (monthsB b) 4 + rx (monthsB b) 5 + rx (monthsB b) 6 + rx (monthsB b) 7 + rx (monthsB b) 8 + rx (monthsB b) 9 + rx (monthsB b) 10 + rx (monthsB b) 11 = if b = true then 366 else 365 := by decide +kernel
theorem daysM_year (y : Int) : daysM y 12 = mYearDays y := daysM_tab (mIsLeap y)
theorem daysM_range (y : Int) : ∀ j : Nat, j ≤ 12 → 28 * (j : Int) ≤ daysM y j ∧ daysM y j ≤ 31 * j
  | 0, _ => by simp [daysM]
  | j + 1, h => by
    have h1 := daysM_range y j (by omega)
    have h2 := monthDays_range y (m := (j : Int) + 1) (by omega) (by omega)
    simp only [daysM]
    omega
theorem daysM_mono (y : Int) : ∀ {j k : Nat}, j ≤ k → k ≤ 12 → daysM y j ≤ daysM y k
  | j, 0, h, _ => by have : j = 0 := by omega
                     subst this; exact Int.le_refl _
  | j, k + 1, h, hk => by
    by_cases e : j = k + 1
    · subst e; exact Int.le_refl _
    · have h1 := daysM_mono y (j := j) (k := k) (by omega) (by omega)
      have h2 := monthDays_range y (m := (k : Int) + 1) (by omega) (by omega)
      simp only [daysM]
      omega
theorem daysY_range : ∀ k : Nat, 365 * (k : Int) ≤ daysY k ∧ daysY k ≤ 366 * k
  | 0 => by simp [daysY]
  | k + 1 => by
    have h1 := daysY_range k
    have h2 := yearDays_range (1970 + (k : Int))
    simp only [daysY]
    omega
theorem daysY_mono : ∀ {j k : Nat}, j ≤ k → daysY j ≤ daysY k
  | j, 0, h => by have : j = 0 := by omega
                  subst this; exact Int.le_refl _
  | j, k + 1, h => by
    by_cases e : j = k + 1
    · subst e; exact Int.le_refl _
    · have h1 := daysY_mono (j := j) (k := k) (by omega)
      have h2 := yearDays_range (1970 + (k : Int))
      simp only [daysY]
      omega
theorem civil_year {n : Int} {k j : Nat} (h : civil n k j) : daysY k ≤ n ∧ n < daysY (k + 1) := by
  obtain ⟨h1, h2, h3, h4⟩ := h
  have h5 := daysM_range (1970 + (k : Int)) j (by omega)
  have h6 := daysM_mono (1970 + (k : Int)) (j := j + 1) (k := 12) (by omega) (by omega)
  rw [daysM_year] at h6
  simp only [daysY]
  omega
theorem civil_uniq {n : Int} {k j k' j' : Nat} (h : civil n k j) (h' : civil n k' j') : k = k' ∧ j = j' := by
  have a := civil_year h
  have b := civil_year h'
  have e : k = k' := by
    rcases Nat.lt_trichotomy k k' with hl | hl | hl
    · have := daysY_mono (j := k + 1) (k := k') hl; omega
    · exact hl
    · have := daysY_mono (j := k' + 1) (k := k) hl; omega
  subst e
  refine ⟨rfl, ?_⟩
  obtain ⟨h1, h2, h3, h4⟩ := h
  obtain ⟨g1, g2, g3, g4⟩ := h'
  rcases Nat.lt_trichotomy j j' with hl | hl | hl
  · have := daysM_mono (1970 + (k : Int)) (j := j + 1) (k := j') hl (by omega); omega
  · exact hl
  · have := daysM_mono (1970 + (k : Int)) (j := j' + 1) (k := j) hl (by omega); omega
theorem showDate_at {a : Int} {k j : Nat} (h0 : 0 ≤ a) (h1 : a ≤ 2000000000) (h : civil (a / 86400) k j) : mShowDate a = showT a (1970 + (k : Int)) (j : Int) (a / 86400 - daysY k - daysM (1970 + (k : Int)) j + 1) := by
  have hx : 0 ≤ a ∧ a ≤ 2000000000 ∧ ∃ p : Nat × Nat, civil (a / 86400) p.1 p.2 := ⟨h0, h1, (k, j), h⟩
  unfold mShowDate
  rw [dif_pos hx]
  obtain ⟨e1, e2⟩ := civil_uniq (Classical.choose_spec hx.2.2) h
  rw [e1, e2]
theorem daysY_67 : daysY 64 = 23376 := by decide +kernel
/-- Each day has its year and month. -/
theorem civil_ex {n : Int} (h0 : 0 ≤ n) (h1 : n < 23376) : ∃ k j, civil n k j ∧ k < 64 := by
  have yr : ∀ k : Nat, n < daysY k → ∃ i, i < k ∧ daysY i ≤ n ∧ n < daysY (i + 1) := fun k => by
    induction k with
    | zero => intro h; simp [daysY] at h; omega
    | succ k ih =>
      intro h
      by_cases hk : n < daysY k
      · obtain ⟨i, hi, h2⟩ := ih hk
        exact ⟨i, by omega, h2⟩
      · exact ⟨k, by omega, by omega, h⟩
  obtain ⟨k, hk, h2, h3⟩ := yr 64 (by rw [daysY_67]; exact h1)
  have mo : ∀ j : Nat, n < daysY k + daysM (1970 + (k : Int)) j → ∃ i, i < j ∧ daysY k + daysM (1970 + (k : Int)) i ≤ n ∧ n < daysY k + daysM (1970 + (k : Int)) (i + 1) := fun j => by
    induction j with
    | zero => intro h; simp [daysM] at h; omega
    | succ j ih =>
      intro h
      by_cases hj : n < daysY k + daysM (1970 + (k : Int)) j
      · obtain ⟨i, hi, h4⟩ := ih hj
        exact ⟨i, by omega, h4⟩
      · exact ⟨j, by omega, by omega, h⟩
  obtain ⟨j, hj, h4, h5⟩ := mo 12 (by rw [daysM_year]; simp only [daysY] at h3; omega)
  exact ⟨k, j, ⟨by omega, hj, h4, h5⟩, hk⟩
end Go.Ev
end

section
/- Laws of the plain library: days, texts of dates. -/
set_option linter.unusedVariables false
namespace Go.Ev
theorem leap_iff (y : Int) (h : 0 ≤ y) : mIsLeap y = true ↔ y.tmod 4 = 0 ∧ (y.tmod 100 ≠ 0 ∨ y.tmod 400 = 0) := by
  rw [tmodI h, tmodI h, tmodI h]
  unfold mIsLeap
  simp
theorem leap_no {y : Int} (h : ¬ (mIsLeap y = true)) : false = mIsLeap y := by cases hh : mIsLeap y <;> simp_all
theorem spec_IsLeap_ok (a0 : Int) (h : pIsLeap a0) : s_spec_IsLeap a0 (fun r => r = mIsLeap a0) := by
  have hi := leap_iff a0 h
  refine ⟨by decide, fun h4 => ⟨by decide, fun h1 => (hi.2 ⟨h4, .inl h1⟩).symm, fun h1 => ⟨by decide, ?_⟩⟩, fun h4 => leap_no fun hh => h4 (hi.1 hh).1⟩
  by_cases hq : a0.tmod 400 = 0
  · simp only [hq, decide_true]; exact (hi.2 ⟨h4, .inr hq⟩).symm
  · simp only [hq, decide_false]; exact leap_no fun hh => (hi.1 hh).2.elim h1 hq
theorem impl_IsLeap_ok (a0 : Int) (h : pIsLeap a0) : s_impl_IsLeap a0 (fun r => r = mIsLeap a0) := by
  have hi := leap_iff a0 h
  have h44 : a0.tmod 400 = 0 → a0.tmod 4 = 0 := by
    have hp : 0 ≤ a0 := h
    rw [tmodI hp, tmodI hp]; omega
  have key : (a0.tmod 4 = 0 → ¬ a0.tmod 100 ≠ 0 ∨ True) → (decide (a0.tmod 400 = 0) = true ↔ a0.tmod 400 = 0) := fun _ => decide_eq_true_iff
  refine ⟨by decide, fun h4 => ⟨by decide, fun h1 => (hi.2 ⟨h4, .inl h1⟩).symm, fun h1 => ⟨by decide, ?_⟩⟩, fun h4 => ⟨by decide, ?_⟩⟩
  · by_cases hq : a0.tmod 400 = 0
    · simp only [hq, decide_true]; exact (hi.2 ⟨h4, .inr hq⟩).symm
    · simp only [hq, decide_false]; exact leap_no fun hh => (hi.1 hh).2.elim h1 hq
  · have hq : ¬ a0.tmod 400 = 0 := fun hq => h4 (h44 hq)
    simp only [hq, decide_false]; exact leap_no fun hh => h4 (hi.1 hh).1
theorem spec_l4Months_ok (a0 : Int) (h : pL4Months a0) : s_spec_l4Months a0 (fun r => r = mL4Months a0) :=
  ⟨h, fun hl => by unfold mL4Months; rw [if_pos hl], fun hl => by unfold mL4Months; rw [if_neg hl]⟩
theorem impl_yearDays_ok (a0 : Int) (h : pYearDays a0) : s_impl_yearDays a0 (fun r => r = mYearDays a0) :=
  ⟨h, fun hl => by unfold mYearDays; rw [if_pos hl], fun hl => by unfold mYearDays; rw [if_neg hl]⟩
theorem monthDays_other : ∀ (b : Bool) (m : Fin 12), (m.val ≠ 1 → rx (monthsB b) ((m.val : Nat) : Int) = rx ([31, 28, 31, 30, 31, 30, 31, 31, 30, 31, 30, 31] : List Int) ((m.val : Nat) : Int)) ∧ rx (monthsB true) 1 = 29 ∧ rx (monthsB false) ((m.val : Nat) : Int) = rx ([31, 28, 31, 30, 31, 30, 31, 31, 30, 31, 30, 31] : List Int) ((m.val : Nat) : Int) := by decide +kernel
theorem impl_monthDays_ok (a0 a1 : Int) (h : pMonthDays a0 a1) : s_impl_monthDays a0 a1 (fun r => r = mMonthDays a0 a1) := by
  obtain ⟨h0, h1, h2⟩ := h
  have w : IntKind.i64.wrap (a1 - 1) = a1 - 1 := wrap64 (by omega) (by omega)
  obtain ⟨t1, t2, t3⟩ := monthDays_other (mIsLeap a0) ⟨(a1 - 1).toNat, by omega⟩
  simp only at t1 t3
  rw [show (((a1 - 1).toNat : Nat) : Int) = a1 - 1 by omega] at t1 t3
  have e : mMonthDays a0 a1 = rx (monthsB (mIsLeap a0)) (a1 - 1) := rfl
  unfold s_impl_monthDays
  rw [w, e]
  refine ⟨fun h2' => ⟨h0, fun hl => ?_, fun hl => ⟨by omega, by simp; omega, ?_⟩⟩, fun h2' => ⟨by omega, by simp; omega, ?_⟩⟩
  · rw [hl, h2']; exact t2.symm
  · rw [show mIsLeap a0 = false by cases hh : mIsLeap a0 <;> simp_all]; exact t3.symm
  · exact (t1 (by omega)).symm
theorem in_iff {n lo hi : Int} : mIn n lo hi = true ↔ lo ≤ n ∧ n ≤ hi := by unfold mIn; simp
theorem daysOf_no {y m d : Int} (h : ¬ (mIn y 1970 2037 = true ∧ mIn m 1 12 = true ∧ mIn d 1 (mMonthDays y m) = true)) : -1 = mDaysOf y m d := by
  unfold mDaysOf
  rw [if_neg]
  simp only [Bool.and_eq_true]
  exact fun hh => h ⟨hh.1.1, hh.1.2, hh.2⟩
theorem daysOf_yes {y m d : Int} (h1 : mIn y 1970 2037 = true) (h2 : mIn m 1 12 = true) (h3 : mIn d 1 (mMonthDays y m) = true) : d - 1 + daysY (y - 1970).toNat + daysM y (m - 1).toNat = mDaysOf y m d := by
  unfold mDaysOf
  rw [if_pos (by simp only [Bool.and_eq_true]; exact ⟨⟨h1, h2⟩, h3⟩)]
theorem impl_DaysOf_ok (a0 a1 a2 : Int) : s_impl_DaysOf a0 a1 a2 (fun r => r = mDaysOf a0 a1 a2) := by
  refine ⟨trivial, fun hn => daysOf_no fun hh => hn hh.1, fun hy => ⟨trivial, fun hn => daysOf_no fun hh => hn hh.2.1, fun hm => ?_⟩⟩
  have hy := Classical.not_not.1 hy
  have hm := Classical.not_not.1 hm
  have iy := in_iff.1 hy
  have im := in_iff.1 hm
  refine ⟨⟨by omega, im.1, im.2⟩, trivial, fun hn => daysOf_no fun hh => hn hh.2.2, fun hd => ?_⟩
  have hd := Classical.not_not.1 hd
  have id := in_iff.1 hd
  have hr := monthDays_range a0 im.1 im.2
  rw [← daysOf_yes hy hm hd]
  have w0 : IntKind.i64.wrap (a2 - 1) = a2 - 1 := wrap64 (by omega) (by omega)
  rw [w0]
  intro L hL
  refine loopI hL (fun z => ∃ i : Nat, (i : Int) ≤ a0 - 1970 ∧ z.2 = 1970 + (i : Int) ∧ z.1 = a2 - 1 + daysY i) (fun z => (a0 - z.2).toNat) (fun z hI ih => ?_) (a2 - 1, 1970) ⟨0, by omega, by simp, by simp [daysY]⟩
  obtain ⟨n, y⟩ := z
  obtain ⟨i, hi, hz2, hz1⟩ := hI
  simp only at hz1 hz2 ⊢
  subst hz1 hz2
  have ry := daysY_range i
  have ryd := yearDays_range (1970 + (i : Int))
  refine ⟨fun hlt => ⟨show 0 ≤ 1970 + (i : Int) by omega, ?_⟩, fun hge => ?_⟩
  · have w1 : IntKind.i64.wrap (a2 - 1 + daysY i + mYearDays (1970 + (i : Int))) = a2 - 1 + daysY (i + 1) := by rw [wrap64 (by omega) (by omega)]; simp only [daysY]; omega
    have w2 : IntKind.i64.wrap (1970 + (i : Int) + 1) = 1970 + ((i + 1 : Nat) : Int) := by rw [wrap64 (by omega) (by omega)]; omega
    rw [w1, w2]
    exact ih _ ⟨i + 1, by omega, rfl, rfl⟩ (by simp only; omega)
  · have hie : (a0 - 1970).toNat = i := by omega
    rw [hie]
    intro L2 hL2
    refine loopI hL2 (fun z => ∃ k : Nat, (k : Int) ≤ a1 - 1 ∧ z.2 = 1 + (k : Int) ∧ z.1 = a2 - 1 + daysY i + daysM a0 k) (fun z => (a1 - z.2).toNat) (fun z hK ik => ?_) (a2 - 1 + daysY i, 1) ⟨0, by omega, by simp, by simp [daysM]⟩
    obtain ⟨n, m⟩ := z
    obtain ⟨k, hk, hz2, hz1⟩ := hK
    simp only at hz1 hz2 ⊢
    subst hz1 hz2
    have rm := daysM_range a0 k (by omega)
    refine ⟨fun hlt => ⟨⟨by omega, by omega, by omega⟩, ?_⟩, fun hge => ?_⟩
    · have rmd := monthDays_range a0 (m := (k : Int) + 1) (by omega) (by omega)
      have w1 : IntKind.i64.wrap (a2 - 1 + daysY i + daysM a0 k + mMonthDays a0 (1 + (k : Int))) = a2 - 1 + daysY i + daysM a0 (k + 1) := by
        rw [show 1 + (k : Int) = (k : Int) + 1 by omega, wrap64 (by omega) (by omega)]; simp only [daysM]; omega
      have w2 : IntKind.i64.wrap (1 + (k : Int) + 1) = 1 + ((k + 1 : Nat) : Int) := by rw [wrap64 (by omega) (by omega)]; omega
      rw [w1, w2]
      exact ik _ ⟨k + 1, by omega, rfl, rfl⟩ (by simp only; omega)
    · have hke : (a1 - 1).toNat = k := by omega
      rw [hke]
theorem spec_DaysOf_ok (a0 a1 a2 : Int) : s_spec_DaysOf a0 a1 a2 (fun r => r = mDaysOf a0 a1 a2) := by
  refine ⟨trivial, fun hn => daysOf_no fun hh => hn hh.1, fun hy => ⟨trivial, fun hn => daysOf_no fun hh => hn hh.2.1, fun hm => ?_⟩⟩
  have hy := Classical.not_not.1 hy
  have hm := Classical.not_not.1 hm
  have iy := in_iff.1 hy
  have im := in_iff.1 hm
  have wm : IntKind.i64.wrap (a1 - 1) = a1 - 1 := wrap64 (by omega) (by omega)
  rw [wm]
  have ml := months_len a0
  refine ⟨show 0 ≤ a0 by omega, by omega, by omega, trivial, fun hn => daysOf_no fun hh => hn hh.2.2, fun hd => ?_⟩
  have hd : mIn a2 1 (mMonthDays a0 a1) = true := Classical.not_not.1 hd
  have id := in_iff.1 hd
  have hr := monthDays_range a0 im.1 im.2
  rw [← daysOf_yes hy hm hd]
  have w0 : IntKind.i64.wrap (a2 - 1) = a2 - 1 := wrap64 (by omega) (by omega)
  rw [w0]
  intro L hL
  refine loopI hL (fun z => ∃ i : Nat, (i : Int) ≤ a0 - 1970 ∧ z.2 = 1970 + (i : Int) ∧ z.1 = a2 - 1 + daysY i) (fun z => (a0 - z.2).toNat) (fun z hI ih => ?_) (a2 - 1, 1970) ⟨0, by omega, by simp, by simp [daysY]⟩
  obtain ⟨n, y⟩ := z
  obtain ⟨i, hi, hz2, hz1⟩ := hI
  simp only at hz1 hz2 ⊢
  subst hz1 hz2
  have ry := daysY_range i
  have ryd := yearDays_range (1970 + (i : Int))
  have w2 : IntKind.i64.wrap (1970 + (i : Int) + 1) = 1970 + ((i + 1 : Nat) : Int) ∨ ¬ (1970 + (i : Int) < a0) := by
    by_cases hlt : 1970 + (i : Int) < a0
    · left; rw [wrap64 (by omega) (by omega)]; omega
    · exact .inr hlt
  refine ⟨fun hlt => ⟨show 0 ≤ 1970 + (i : Int) by omega, fun hl => ?_, fun hl => ?_⟩, fun hge => ?_⟩
  · have w1 : IntKind.i64.wrap (IntKind.i64.wrap (a2 - 1 + daysY i + 365) + 1) = a2 - 1 + daysY (i + 1) := by
      have e : mYearDays (1970 + (i : Int)) = 366 := by unfold mYearDays; rw [if_pos hl]
      rw [wrap64 (n := a2 - 1 + daysY i + 365) (by omega) (by omega), wrap64 (by omega) (by omega)]; simp only [daysY, e]; omega
    rw [w1, w2.resolve_right (fun h => h hlt)]
    exact ih _ ⟨i + 1, by omega, rfl, rfl⟩ (by simp only; omega)
  · have w1 : IntKind.i64.wrap (a2 - 1 + daysY i + 365) = a2 - 1 + daysY (i + 1) := by
      have e : mYearDays (1970 + (i : Int)) = 365 := by unfold mYearDays; rw [if_neg hl]
      rw [wrap64 (by omega) (by omega)]; simp only [daysY, e]; omega
    rw [w1, w2.resolve_right (fun h => h hlt)]
    exact ih _ ⟨i + 1, by omega, rfl, rfl⟩ (by simp only; omega)
  · have hie : (a0 - 1970).toNat = i := by omega
    rw [hie]
    intro L2 hL2
    refine loopI hL2 (fun z => ∃ k : Nat, (k : Int) ≤ a1 - 1 ∧ z.2 = 1 + (k : Int) ∧ z.1 = a2 - 1 + daysY i + daysM a0 k) (fun z => (a1 - z.2).toNat) (fun z hK ik => ?_) (a2 - 1 + daysY i, 1) ⟨0, by omega, by simp, by simp [daysM]⟩
    obtain ⟨n, m⟩ := z
    obtain ⟨k, hk, hz2, hz1⟩ := hK
    simp only at hz1 hz2 ⊢
    subst hz1 hz2
    have rm := daysM_range a0 k (by omega)
    refine ⟨fun hlt => ?_, fun hge => ?_⟩
    · have rmd := monthDays_range a0 (m := (k : Int) + 1) (by omega) (by omega)
      have wk : IntKind.i64.wrap (1 + (k : Int) - 1) = (k : Int) := by rw [wrap64 (by omega) (by omega)]; omega
      rw [wk]
      have ek : rx (mL4Months a0) (k : Int) = mMonthDays a0 ((k : Int) + 1) := by unfold mMonthDays; rw [show (k : Int) + 1 - 1 = (k : Int) by omega]
      rw [ek]
      refine ⟨show 0 ≤ a0 by omega, by omega, by omega, ?_⟩
      have w1 : IntKind.i64.wrap (a2 - 1 + daysY i + daysM a0 k + mMonthDays a0 ((k : Int) + 1)) = a2 - 1 + daysY i + daysM a0 (k + 1) := by
        rw [wrap64 (by omega) (by omega)]; simp only [daysM]; omega
      have w3 : IntKind.i64.wrap (1 + (k : Int) + 1) = 1 + ((k + 1 : Nat) : Int) := by rw [wrap64 (by omega) (by omega)]; omega
      rw [w1, w3]
      exact ik _ ⟨k + 1, by omega, rfl, rfl⟩ (by simp only; omega)
    · have hke : (a1 - 1).toNat = k := by omega
      rw [hke]
theorem impl_months_ok : s_impl_months (fun r => r = mMonths ()) := rfl
theorem two_tab : ∀ k : Fin 100, (mItoa (IntKind.i64.wrap (100 + ((k.val : Nat) : Int)))).size = 3 ∧ (mItoa (IntKind.i64.wrap (100 + ((k.val : Nat) : Int)))).extract 1 (mItoa (IntKind.i64.wrap (100 + ((k.val : Nat) : Int)))).size = mTwo ((k.val : Nat) : Int) ∧
    strOf [IntKind.u8.wrap (IntKind.i64.wrap (48 + (IntKind.i64.wrap (((k.val : Nat) : Int).tdiv 10)).tmod 10)), IntKind.u8.wrap (IntKind.i64.wrap (48 + ((k.val : Nat) : Int).tmod 10))] = mTwo ((k.val : Nat) : Int) := by decide +kernel
theorem impl_two_ok (a0 : Int) (h : pTwo a0) : s_impl_two a0 (fun r => r = mTwo a0) := by
  obtain ⟨h0, h1⟩ := h
  obtain ⟨t1, t2, _⟩ := two_tab ⟨a0.toNat, by omega⟩
  simp only at t1 t2
  rw [show ((a0.toNat : Nat) : Int) = a0 by omega] at t1 t2
  refine ⟨?_, by omega, by rw [t1]; decide, t2⟩
  rw [wrap64 (by omega) (by omega)]
  exact ⟨by omega, by omega⟩
theorem spec_l4Two_ok (a0 : Int) (h : pL4Two a0) : s_spec_l4Two a0 (fun r => r = mL4Two a0) := by
  obtain ⟨h0, h1⟩ := h
  obtain ⟨_, _, t3⟩ := two_tab ⟨a0.toNat, by omega⟩
  simp only at t3
  rw [show ((a0.toNat : Nat) : Int) = a0 by omega] at t3
  exact ⟨by decide, by decide, by decide, t3⟩
end Go.Ev
end

section
/- Laws of the plain library: texts of moments. -/
set_option linter.unusedVariables false
namespace Go.Ev
theorem week_tab : ∀ i : Fin 7, (rx weekL ((i.val : Nat) : Int)).size = 3 := by decide +kernel
theorem month_tab : ∀ i : Fin 12, (rx monthL ((i.val : Nat) : Int)).size = 3 := by decide +kernel
theorem week_size {i : Int} (h0 : 0 ≤ i) (h1 : i < 7) : (rx weekL i).size = 3 := by
  have := week_tab ⟨i.toNat, by omega⟩
  simp only at this
  rwa [show ((i.toNat : Nat) : Int) = i by omega] at this
theorem month_size {i : Int} (h0 : 0 ≤ i) (h1 : i < 12) : (rx monthL i).size = 3 := by
  have := month_tab ⟨i.toNat, by omega⟩
  simp only at this
  rwa [show ((i.toNat : Nat) : Int) = i by omega] at this
theorem two_size (n : Int) : (mTwo n).size = 2 := rfl
theorem decS_le (n : Int) (h : pDec n) : (mDec n).size ≤ 21 := by
  unfold mDec mItoa
  rw [ob_size]
  exact Lib.itoa_length_le n h.1 h.2
theorem lit_size (l : List Nat) : (lit l).size = l.length := by unfold lit; simp [ByteArray.size]
theorem showDate_no {a : Int} (h : ¬ (0 ≤ a ∧ a ≤ 2000000000)) : lit [] = mShowDate a := by
  unfold mShowDate
  rw [dif_neg fun hh => h ⟨hh.1, hh.2.1⟩]
theorem impl_ShowDate_ok (a0 : Int) (h : pShowDate a0) : s_impl_ShowDate a0 (fun r => r = mShowDate a0) := by
  refine ⟨trivial, fun hn => showDate_no fun hh => hn (in_iff.2 hh), fun hy => ?_⟩
  have hr := in_iff.1 (Classical.not_not.1 hy)
  have e1 : IntKind.i64.wrap (a0.tdiv 86400) = a0 / 86400 := by rw [tdivI hr.1, wrap64 (by omega) (by omega)]
  have e2 : (a0 / 86400).tmod 7 = a0 / 86400 % 7 := tmodI (by omega)
  have hW := week_size (i := a0 / 86400 % 7) (by omega) (by omega)
  have e3 : IntKind.i64.wrap ((a0.tmod 86400).tdiv 3600) = a0 / 3600 % 24 := by rw [tmodI hr.1, tdivI (by omega), wrap64 (by omega) (by omega)]; omega
  have e4 : (IntKind.i64.wrap ((a0.tmod 86400).tdiv 60)).tmod 60 = a0 / 60 % 60 := by rw [tmodI hr.1, tdivI (by omega), wrap64 (by omega) (by omega), tmodI (by omega)]; omega
  have e5 : (a0.tmod 86400).tmod 60 = a0 % 60 := by rw [tmodI hr.1, tmodI (by omega)]; omega
  simp only [e1, e2, e3, e4, e5]
  refine ⟨by decide, by decide, by decide, by omega, by show _ < (7 : Int); omega, ?_⟩
  generalize hD : a0 / 86400 = D at *
  have hD2 : D < 23376 := by omega
  intro L hL
  refine loopI hL (fun z => ∃ k : Nat, z.2 = 1970 + (k : Int) ∧ z.1 = D - daysY k ∧ 0 ≤ z.1 ∧ k ≤ 64) (fun z => (z.1).toNat) (fun z hI ih => ?_) (D, 1970) ⟨0, by simp, by simp [daysY], by omega, by omega⟩
  obtain ⟨n, y⟩ := z
  obtain ⟨k, hz2, hz1, hn, hk⟩ := hI
  simp only at hz1 hz2 hn ⊢
  subst hz1 hz2
  have rk := daysY_range k
  have ryd := yearDays_range (1970 + (k : Int))
  refine ⟨show 0 ≤ 1970 + (k : Int) by omega, fun hle => ⟨show 0 ≤ 1970 + (k : Int) by omega, ?_⟩, fun hgt => ?_⟩
  · have hk1 : k + 1 ≤ 64 := by
      apply Classical.byContradiction
      intro hh
      have : k = 64 := by omega
      subst this
      rw [daysY_67] at hn
      omega
    have w1 : IntKind.i64.wrap (D - daysY k - mYearDays (1970 + (k : Int))) = D - daysY (k + 1) := by rw [wrap64 (by omega) (by omega)]; simp only [daysY]; omega
    have w2 : IntKind.i64.wrap (1970 + (k : Int) + 1) = 1970 + ((k + 1 : Nat) : Int) := by rw [wrap64 (by omega) (by omega)]; omega
    rw [w1, w2]
    exact ih _ ⟨k + 1, rfl, rfl, by simp only [daysY]; omega, hk1⟩ (by simp only [daysY]; omega)
  · intro L2 hL2
    refine loopI hL2 (fun z => ∃ j : Nat, j < 12 ∧ z.2 = 1 + (j : Int) ∧ z.1 = D - daysY k - daysM (1970 + (k : Int)) j ∧ 0 ≤ z.1) (fun z => (z.1).toNat) (fun z hI ih => ?_) (D - daysY k, 1) ⟨0, by omega, by simp, by simp [daysM], by simp only; omega⟩
    obtain ⟨n, m⟩ := z
    obtain ⟨j, hj, hz2, hz1, hn2⟩ := hI
    simp only at hz1 hz2 hn2 ⊢
    subst hz1 hz2
    have rmd := monthDays_range (1970 + (k : Int)) (m := (j : Int) + 1) (by omega) (by omega)
    have rdm := daysM_range (1970 + (k : Int)) j (by omega)
    have ej : (1 : Int) + (j : Int) = (j : Int) + 1 := by omega
    rw [ej]
    refine ⟨⟨by omega, by omega, by omega⟩, fun hle => ⟨⟨by omega, by omega, by omega⟩, ?_⟩, fun hgt2 => ?_⟩
    · have hj1 : j + 1 < 12 := by
        apply Classical.byContradiction
        intro hh
        have : j = 11 := by omega
        subst this
        have h12 : daysM (1970 + (k : Int)) 12 = daysM (1970 + (k : Int)) 11 + mMonthDays (1970 + (k : Int)) (((11 : Nat) : Int) + 1) := rfl
        rw [daysM_year] at h12
        omega
      have w1 : IntKind.i64.wrap (D - daysY k - daysM (1970 + (k : Int)) j - mMonthDays (1970 + (k : Int)) ((j : Int) + 1)) = D - daysY k - daysM (1970 + (k : Int)) (j + 1) := by rw [wrap64 (by omega) (by omega)]; simp only [daysM]; omega
      have w2 : IntKind.i64.wrap ((j : Int) + 1 + 1) = 1 + ((j + 1 : Nat) : Int) := by rw [wrap64 (by omega) (by omega)]; omega
      rw [w1, w2]
      exact ih _ ⟨j + 1, hj1, rfl, rfl, by simp only [daysM]; omega⟩ (by simp only [daysM]; omega)
    · have civ : civil D k j := ⟨by omega, hj, by omega, by simp only [daysM]; omega⟩
      have w1 : IntKind.i64.wrap (D - daysY k - daysM (1970 + (k : Int)) j + 1) = D - daysY k - daysM (1970 + (k : Int)) j + 1 := wrap64 (by omega) (by omega)
      have w2 : IntKind.i64.wrap ((j : Int) + 1 - 1) = (j : Int) := by rw [wrap64 (by omega) (by omega)]; omega
      have hy : pDec (1970 + (k : Int)) := ⟨by omega, by omega⟩
      have hdec := decS_le _ hy
      have hdec2 : (mItoa (1970 + (k : Int))).size ≤ 21 := hdec
      have hM := month_size (i := (j : Int)) (by omega) (by omega)
      simp only [w1, w2]
      repeat' apply And.intro
      all_goals first
        | (simp only [size_append, two_size, hW, hM, lit_size, List.length_cons, List.length_nil]; omega)
        | exact hy
        | exact ⟨by omega, by omega⟩
        | decide
        | (show _ < (12 : Int); omega)
        | omega
        | exact trivial
        | skip
      subst hD
      rw [showDate_at hr.1 hr.2 civ]
      rfl
end Go.Ev
end

section
/- Laws of the plain library: marks of texts in a row, FieldSet, WithAge, VaryNames. -/
set_option linter.unusedVariables false
namespace Go.Ev
theorem laws_markStringS_ok (a0 : List S) (a1 : Int) (h : pMarkStringS a0 a1) : s_laws_markStringS a0 a1 (fun r y => r = mMarkStringS a0 a1 ∧ y = wMarkStringS a0 a1) := by
  obtain ⟨k0, k1, hn⟩ := h
  intro L hL
  refine loopI hL (fun y => ∃ i : Nat, i ≤ a0.length ∧ y.2.1 = (i : Int) ∧ y.1 = a1 + i ∧ y.2.2.length = a0.length ∧ y.2.2.take i = (markTxt a0 a1).take i) (fun y => a0.length + 1 - y.2.1.toNat) (fun y hI ih => ?_) (a1, 0, a0) ⟨0, by omega, rfl, by simp, rfl, by simp⟩
  obtain ⟨k, i', xs⟩ := y
  obtain ⟨i, hi, hy, hk, hl, ht⟩ := hI
  simp only at hy hk hl ht ⊢
  subst hy hk
  have hm := markTxt_length a0 a1
  have w1 : IntKind.i64.wrap (a1 + (i : Int) + 1) = a1 + ((i + 1 : Nat) : Int) := by rw [wrap64 (by omega) (by omega)]; omega
  have w3 : IntKind.i64.wrap ((i : Int) + 1) = ((i + 1 : Nat) : Int) := wrapS (by omega)
  rw [w1, w3]
  refine ⟨fun hlt => ?_, fun hge => ?_⟩
  · have hlt' : i < xs.length := by omega
    refine ⟨⟨by omega, by omega⟩, by omega, hlt, ?_⟩
    refine ih _ ⟨i + 1, by omega, rfl, rfl, by simp [hl], ?_⟩ (by simp only [Int.toNat_natCast]; omega)
    simp only [Int.toNat_natCast]
    exact take_set_succ hlt' (by omega) ht (markTxt_get a0 a1 i (by omega))
  · have hie : i = a0.length := by omega
    subst hie
    refine ⟨rfl, ?_⟩
    unfold wMarkStringS
    rw [List.take_of_length_le (by omega), List.take_of_length_le (by omega)] at ht
    rw [ht]
theorem laws_heldStringS_ok (a0 : List S) (a1 : Int) (h : pHeldStringS a0 a1) : s_laws_heldStringS a0 a1 (fun r => r = mHeldStringS a0 a1) := by
  obtain ⟨k0, k1, hn⟩ := h
  intro L hL
  refine loopI hL (fun y => ∃ i : Nat, i ≤ a0.length ∧ y.2 = (i : Int) ∧ y.1 = a1 + i ∧ heldTxt (a0.drop i) y.1 = heldTxt a0 a1) (fun y => a0.length + 1 - y.2.toNat) (fun y hI ih => ?_) (a1, 0) ⟨0, by omega, rfl, by simp, by simp⟩
  obtain ⟨k, i'⟩ := y
  obtain ⟨i, hi, hy, hk, he⟩ := hI
  simp only at hy hk he ⊢
  subst hy hk
  have w1 : IntKind.i64.wrap (a1 + (i : Int) + 1) = a1 + ((i + 1 : Nat) : Int) := by rw [wrap64 (by omega) (by omega)]; omega
  have w3 : IntKind.i64.wrap ((i : Int) + 1) = ((i + 1 : Nat) : Int) := wrapS (by omega)
  rw [w1, w3]
  refine ⟨fun hlt => ?_, fun hge => ?_⟩
  · have hlt' : i < a0.length := by omega
    rw [List.drop_eq_getElem_cons hlt'] at he
    rw [rx_get _ hlt']
    rw [heldTxt] at he
    refine ⟨by omega, hlt, ⟨by omega, by omega⟩, fun hne => ?_, fun hne => ?_⟩
    · rw [if_pos hne] at he; exact he
    · rw [if_neg hne] at he
      refine ih _ ⟨i + 1, by omega, rfl, rfl, ?_⟩ (by simp only [Int.toNat_natCast]; omega)
      simp only
      rw [← he]
      congr 1
      omega
  · have hie : i = a0.length := by omega
    subst hie
    rw [List.drop_of_length_le (Nat.le_refl _)] at he
    exact he
theorem laws_heldResponse_ok (a0 : Rsp) (a1 : Int) (h : pHeldResponse a0 a1) : s_laws_heldResponse a0 a1 (fun r => r = mHeldResponse a0 a1) := by
  refine ⟨h, fun h1 => ?_, fun h1 => ?_⟩
  · unfold mHeldResponse; rw [if_pos h1]
  · unfold mHeldResponse; rw [if_neg h1]
theorem impl_within_ok (a0 : Int) (h : pWithin a0) : s_impl_within a0 (fun r => r = mWithin a0) := rfl

/-! ### FieldSet -/
theorem fset_step {l : List Fld} {n v : S} {b : Bool} {i : Nat} (hi : i < l.length) : fset (l.drop i) n v b = if l[i].1 ≠ n then l[i] :: fset (l.drop (i + 1)) n v b else if b = true then fset (l.drop (i + 1)) n v true else (n, v) :: fset (l.drop (i + 1)) n v true := by
  rw [List.drop_eq_getElem_cons hi, fset]
theorem spec_FieldSet_ok (a0 : List Fld) (a1 a2 : S) (h : pFieldSet a0 a1 a2) : s_spec_FieldSet a0 a1 a2 (fun r => r = mFieldSet a0 a1 a2) := by
  replace h : a0.length ≤ 1099511627776 := h
  intro L hL
  refine loopG hL a0.length (fun i y => y.2.2 = (i : Int) ∧ y.1.length ≤ i ∧ y.1 ++ fset (a0.drop i) a1 a2 y.2.1 = mFieldSet a0 a1 a2) (fun i y hi hI hn => ?_) (s0 := ([], false, 0)) ⟨rfl, by simp, by simp [mFieldSet]⟩
  obtain ⟨xs, b, i'⟩ := y
  obtain ⟨h1, h2, h3⟩ := hI
  simp only at h1 h2 h3 ⊢
  subst h1
  rw [wrapS (by omega)]
  refine ⟨fun hlt => ?_, fun hge => ?_⟩
  · have hi2 : i < a0.length := by omega
    rw [fset_step hi2] at h3
    rw [rx_get _ hi2]
    refine ⟨by omega, hlt, fun hne => ⟨by omega, hlt, by simp only [List.length_cons, List.length_nil]; omega, ?_⟩, fun hne => ⟨fun hb => ⟨by simp only [List.length_cons, List.length_nil]; omega, ?_⟩, fun hb => ?_⟩⟩
    · rw [if_pos hne] at h3
      exact hn _ hi2 ⟨rfl, by simp only [List.length_append, List.length_cons, List.length_nil]; omega, by rw [← h3]; simp⟩
    · rw [if_neg hne, if_neg hb] at h3
      exact hn _ hi2 ⟨rfl, by simp only [List.length_append, List.length_cons, List.length_nil]; omega, by rw [← h3]; simp⟩
    · have hb := Classical.not_not.1 hb
      rw [if_neg hne, if_pos hb] at h3
      exact hn _ hi2 ⟨rfl, by simp only; omega, by simp only; rw [hb]; exact h3⟩
  · rw [List.drop_of_length_le (by omega)] at h3
    rw [fset] at h3
    refine ⟨fun hb => ⟨by simp only [List.length_cons, List.length_nil]; omega, ?_⟩, fun hb => ?_⟩
    · rw [if_neg hb] at h3; exact h3
    · rw [if_pos (Classical.not_not.1 hb)] at h3; simpa using h3
theorem impl_FieldSet_ok (a0 : List Fld) (a1 a2 : S) (h : pFieldSet a0 a1 a2) : s_impl_FieldSet a0 a1 a2 (fun r => r = mFieldSet a0 a1 a2) := by
  replace h : a0.length ≤ 1099511627776 := h
  intro L hL
  refine loopG hL a0.length (fun i y => y.2.2 = (i : Int) ∧ y.1.length ≤ i ∧ y.1 ++ fset (a0.drop i) a1 a2 y.2.1 = mFieldSet a0 a1 a2) (fun i y hi hI hn => ?_) (s0 := ([], false, 0)) ⟨rfl, by simp, by simp [mFieldSet]⟩
  obtain ⟨xs, b, i'⟩ := y
  obtain ⟨h1, h2, h3⟩ := hI
  simp only at h1 h2 h3 ⊢
  subst h1
  rw [wrapS (by omega)]
  refine ⟨fun hlt => ?_, fun hge => ?_⟩
  · have hi2 : i < a0.length := by omega
    rw [fset_step hi2] at h3
    rw [rx_get _ hi2]
    refine ⟨by omega, hlt, fun hne => ⟨by simp only [List.length_cons, List.length_nil]; omega, ?_⟩, fun hne => ⟨fun hb => ⟨by simp only [List.length_cons, List.length_nil]; omega, ?_⟩, fun hb => ?_⟩⟩
    · rw [if_pos hne] at h3
      exact hn _ hi2 ⟨rfl, by simp only [List.length_append, List.length_cons, List.length_nil]; omega, by rw [← h3]; simp⟩
    · rw [if_neg hne, if_neg hb] at h3
      exact hn _ hi2 ⟨rfl, by simp only [List.length_append, List.length_cons, List.length_nil]; omega, by rw [← h3]; simp⟩
    · have hb := Classical.not_not.1 hb
      rw [if_neg hne, if_pos hb] at h3
      exact hn _ hi2 ⟨rfl, by simp only; omega, by simp only; rw [hb]; exact h3⟩
  · rw [List.drop_of_length_le (by omega)] at h3
    rw [fset] at h3
    refine ⟨fun hb => ⟨by simp only [List.length_cons, List.length_nil]; omega, ?_⟩, fun hb => ?_⟩
    · rw [if_neg hb] at h3; exact h3
    · rw [if_pos (Classical.not_not.1 hb)] at h3; simpa using h3

/-! ### WithAge -/
theorem withAge_pre {r : Rsp} {a : Int} (h : pWithAge r a) : pFieldSet r.2.1 sAge (mDec (mWithin a)) := by
  have h1 := md_len' h
  unfold pFieldSet
  omega
theorem spec_WithAge_ok (a0 : Rsp) (a1 : Int) (h : pWithAge a0 a1) : s_spec_WithAge a0 a1 (fun r => r = mWithAge a0 a1) := ⟨within_in64 a1, withAge_pre h, rfl⟩
theorem impl_WithAge_ok (a0 : Rsp) (a1 : Int) (h : pWithAge a0 a1) : s_impl_WithAge a0 a1 (fun r => r = mWithAge a0 a1) := ⟨trivial, within_in64 a1, withAge_pre h, rfl⟩
theorem withAge_wd {r : Rsp} {a : Int} (h : pWithAge r a) (w : wd r) : wd (mWithAge r a) := by
  have h1 := md_len' h
  have h2 := fset_length r.2.1 sAge (mDec (mWithin a)) false
  refine ⟨w.1, ⟨by show (fset r.2.1 sAge (mDec (mWithin a)) false).length ≤ _; simp only [maxLen]; omega, fun i x hx => ?_⟩, w.2.2⟩
  rcases fset_mem _ _ _ _ _ (List.mem_of_getElem? hx) with hm | hm
  · exact wd_mem w.2.1 hm
  · subst hm
    have h3 := decS_le (mWithin a) (within_in64 a)
    exact ⟨show sAge.size ≤ maxLen by decide, show (mDec _).size ≤ maxLen by simp only [maxLen]; omega⟩
def p_FnExactWithAge (a0 : Rsp) (a1 : Int) : Prop := wd a0 ∧ wd a1
theorem laws_FnExactWithAge_ok (a0 : Rsp) (a1 : Int) (h : p_FnExactWithAge a0 a1) : s_laws_FnExactWithAge a0 a1 (fun r => r = true) := by
  obtain ⟨w0, w1⟩ := h
  refine ⟨⟨w0, by omega, by simp [capI]⟩, fun _ => rfl, fun hs0 => ?_⟩
  have m0 : md a0 := szF_md hs0 (by omega) (by omega)
  have hp : pWithAge (toF a0) a1 := md_rsp m0
  have pw := withAge_wd hp w0
  have q0 := md_len' hp
  have hl : (mWithAge (toF a0) a1).2.1.length ≤ 1048577 := Nat.le_trans (fset_length _ _ _ _) (by omega)
  have hk1 : pMarkResponse (toF a0) 1 := ⟨by omega, by omega, by omega⟩
  have hg : ¬ mMarkResponse (toF a0) 1 < 0 := by show ¬ (1 + 2 * ((toF a0).2.1.length : Int) < 0); omega
  have hm : pMarkResponse (mWithAge (toF a0) a1) 1 := ⟨by omega, by omega, by omega⟩
  have hh : pHeldResponse ((mWithAge (toF a0) a1).1, (wMarkResponse (mWithAge (toF a0) a1) 1).1.2.1, (mWithAge (toF a0) a1).2.2) 1 := ⟨by omega, by omega, by show (markFld (mWithAge (toF a0) a1).2.1 1).length ≤ _; rw [markFld_length]; omega⟩
  have he : mHeldResponse ((mWithAge (toF a0) a1).1, (wMarkResponse (mWithAge (toF a0) a1) 1).1.2.1, (mWithAge (toF a0) a1).2.2) 1 = mMarkResponse (mWithAge (toF a0) a1) 1 := by
    have e1 : mHeldFieldS (markFld (mWithAge (toF a0) a1).2.1 1) 1 = mMarkResponse (mWithAge (toF a0) a1) 1 := held_mark _ _
    show (if mHeldFieldS (markFld (mWithAge (toF a0) a1).2.1 1) 1 < 0 then -1 else mHeldFieldS (markFld (mWithAge (toF a0) a1).2.1 1) 1) = _
    rw [e1, if_neg (by show ¬ (1 + 2 * ((mWithAge (toF a0) a1).2.1.length : Int) < 0); omega)]
  have hge : ¬ mHeldResponse ((mWithAge (toF a0) a1).1, (wMarkResponse (mWithAge (toF a0) a1) 1).1.2.1, (mWithAge (toF a0) a1).2.2) 1 < 0 := by rw [he]; show ¬ (1 + 2 * ((mWithAge (toF a0) a1).2.1.length : Int) < 0); omega
  have eqs : ∀ {α : Type} [DecidableEq α] (x : α), ¬ (eqF x x = true) → False := fun x hne => hne (eqF_iff.2 rfl)
  exact ⟨m0, hp, m0, hp, pw, fun hne => (eqs _ hne).elim, fun _ => ⟨m0, w0, fun hne => (eqs _ hne).elim, fun _ => ⟨hk1, fun hl => absurd hl hg, fun _ =>
    ⟨pw, fun hne => (eqs _ hne).elim, fun _ => ⟨hm, hh, fun hl => absurd hl hge, fun _ => ⟨fun hne => absurd he hne, fun _ => ⟨m0, hp, pw, fun hne => (eqs _ hne).elim, fun _ => ⟨hh, fun hl => absurd hl hge, fun _ => ⟨fun hne => absurd he hne, fun _ => rfl⟩⟩⟩⟩⟩⟩⟩⟩⟩

/-! ### VaryNames -/
theorem varyNames_wd {r : Rsp} (h : pVaryNames r) : wd (mVaryNames r) := by
  have h1 := varyNames_len r h
  refine ⟨by simp only [maxLen]; omega, fun i x hx => ?_⟩
  have h2 := varyName_size h (List.mem_of_getElem? hx)
  exact show x.size ≤ maxLen by simp only [maxLen]; omega
def p_FnExactVaryNames (a0 : Rsp) : Prop := wd a0
theorem laws_FnExactVaryNames_ok (a0 : Rsp) (h : p_FnExactVaryNames a0) : s_laws_FnExactVaryNames a0 (fun r => r = true) := by
  have w0 : wd a0 := h
  refine ⟨⟨w0, by omega, by simp [capI]⟩, fun _ => rfl, fun hs0 => ?_⟩
  have m0 : md a0 := szF_md hs0 (by omega) (by omega)
  have hp : pVaryNames (toF a0) := md_rsp m0
  have pw := varyNames_wd hp
  have q0 := md_len' (md_rsp m0)
  have hl := varyNames_len (toF a0) hp
  have hk1 : pMarkResponse (toF a0) 1 := ⟨by omega, by omega, by show a0.2.1.length ≤ _; omega⟩
  have hg : ¬ mMarkResponse (toF a0) 1 < 0 := by show ¬ (1 + 2 * (a0.2.1.length : Int) < 0); omega
  have hm : pMarkStringS (mVaryNames (toF a0)) 1 := ⟨by omega, by omega, by omega⟩
  have hh : pHeldStringS (wMarkStringS (mVaryNames (toF a0)) 1).1 1 := ⟨by omega, by omega, by show (markTxt _ _).length ≤ _; rw [markTxt_length]; omega⟩
  have he : mHeldStringS (wMarkStringS (mVaryNames (toF a0)) 1).1 1 = mMarkStringS (mVaryNames (toF a0)) 1 := held_markTxt _ _
  have hge : ¬ mHeldStringS (wMarkStringS (mVaryNames (toF a0)) 1).1 1 < 0 := by rw [he]; unfold mMarkStringS; omega
  have eqs : ∀ {α : Type} [DecidableEq α] (x : α), ¬ (eqF x x = true) → False := fun x hne => hne (eqF_iff.2 rfl)
  exact ⟨m0, hp, m0, hp, pw, fun hne => (eqs _ hne).elim, fun _ => ⟨m0, w0, fun hne => (eqs _ hne).elim, fun _ => ⟨hk1, fun hl => absurd hl hg, fun _ =>
    ⟨pw, fun hne => (eqs _ hne).elim, fun _ => ⟨hm, hh, fun hl => absurd hl hge, fun _ => ⟨fun hne => absurd he hne, fun _ => ⟨m0, hp, pw, fun hne => (eqs _ hne).elim, fun _ => ⟨hh, fun hl => absurd hl hge, fun _ => ⟨fun hne => absurd he hne, fun _ => rfl⟩⟩⟩⟩⟩⟩⟩⟩⟩
/-! ### Rows of texts -/
def s_laws_eqStringS (a0 : (List S)) (a1 : (List S)) (Q : (Bool → Prop)) : Prop :=
  ((a0.length : Int) ≠ (a1.length : Int) →
    (Q false)) ∧
  (¬ ((a0.length : Int) ≠ (a1.length : Int)) →
    (∀ L0 : (Int → Prop),
      ((
          (∀ y1 : Int,
            ((
                (y1 < (a0.length : Int) →
                  0 ≤ y1 ∧
                  y1 < (a0.length : Int) ∧
                  0 ≤ y1 ∧
                  y1 < (a1.length : Int) ∧
                  ((rx a0 y1) ≠ (rx a1 y1) →
                    (Q false)) ∧
                  (¬ ((rx a0 y1) ≠ (rx a1 y1)) →
                    (L0 (IntKind.i64.wrap (y1 + 1))))) ∧
                (¬ (y1 < (a0.length : Int)) →
                  (Q true))
              ) →
              (L0 y1)))
        ) →
        (L0 0))))
theorem laws_eqStringS_ok (a0 a1 : List S) (h : pEq a0 a1) : s_laws_eqStringS a0 a1 (fun r => r = eqF a0 a1) := by
  have hl : a0.length ≤ maxLen := h.1
  simp only [maxLen] at hl
  refine ⟨fun hne => ?_, fun he => fun L hL => ?_⟩
  · have : eqF a0 a1 = false := by
      rw [← Bool.not_eq_true, eqF_iff]
      intro e
      exact hne (by rw [e])
    exact this.symm
  · have he' : a0.length = a1.length := by have := Classical.not_not.1 he; omega
    refine loopG hL a0.length (fun i y => y = (i : Int) ∧ a0.take i = a1.take i) (fun i y hi hI hn => ?_) (s0 := 0) ⟨rfl, by simp⟩
    obtain ⟨rfl, ht⟩ := hI
    refine ⟨fun hlt => ?_, fun hge => ?_⟩
    · have h0 : i < a0.length := by omega
      have h1 : i < a1.length := by omega
      rw [rx_get _ h0, rx_get _ h1]
      refine ⟨by omega, hlt, by omega, by omega, fun hne => ?_, fun hne => ?_⟩
      · have : eqF a0 a1 = false := by
          rw [← Bool.not_eq_true, eqF_iff]
          intro e
          subst e
          exact hne rfl
        exact this.symm
      · rw [wrap64 (by omega) (by omega)]
        refine hn _ h0 ⟨by omega, ?_⟩
        rw [take_succ_app h0, take_succ_app h1, ht, Classical.not_not.1 hne]
    · rw [List.take_of_length_le (by omega), List.take_of_length_le (by omega)] at ht
      exact (eqF_iff.2 ht).symm
end Go.Ev
end

section
/- Laws of the plain library: the origin. -/
set_option linter.unusedVariables false
namespace Go.Ev
theorem bytesLess_not : ∀ x y : List UInt8, Op.bytesLess x y = false ↔ (Op.bytesLess y x = true ∨ x = y)
  | [], [] => by simp [Op.bytesLess]
  | [], b :: y => by simp [Op.bytesLess]
  | a :: x, [] => by simp [Op.bytesLess]
  | a :: x, b :: y => by
    have ih := bytesLess_not x y
    simp only [Op.bytesLess, Bool.or_eq_false_iff, Bool.and_eq_false_iff, Bool.or_eq_true, Bool.and_eq_true, decide_eq_true_eq, decide_eq_false_iff_not, beq_iff_eq, List.cons.injEq, beq_eq_false_iff_ne, ne_eq]
    rcases Nat.lt_trichotomy a.toNat b.toNat with h | h | h
    · have h1 : a < b := h
      have h2 : ¬ b < a := by show ¬ b.toNat < a.toNat; omega
      have h3 : a ≠ b := by rintro rfl; omega
      have h4 : b ≠ a := fun e => h3 e.symm
      simp [h1, h2, h3, h4]
    · have e : a = b := UInt8.toNat_inj.1 h
      subst e
      have h1 : ¬ a < a := by show ¬ a.toNat < a.toNat; omega
      simp [h1, ih]
    · have h1 : ¬ a < b := by show ¬ a.toNat < b.toNat; omega
      have h2 : b < a := h
      have h3 : a ≠ b := by rintro rfl; omega
      simp [h1, h2, h3]
theorem strLt_not (x y : S) : (strLt y x ∨ x = y) ↔ ¬ strLt x y := by
  unfold strLt
  rw [Bool.not_eq_true, bytesLess_not]
  refine or_congr Iff.rfl ⟨fun h => h ▸ rfl, fun h => ?_⟩
  exact bs_inj (by rw [ByteArray.toList_eq, ByteArray.toList_eq] at h; exact h)
theorem org_mem {o : List Rsc} (h : md o) {i : Nat} (hi : i < o.length) : md (rx o (i : Int)) := by
  rw [rx_nat o i hi]
  unfold md at h ⊢
  have := cz_mem (List.getElem_mem hi : o[i] ∈ o)
  omega
open Classical in
theorem org_false {o : List Rsc} {i : Nat} (hi : i < o.length) (h : ¬ orgAt o i) : false = mOriginOk o := by
  unfold mOriginOk
  rw [decide_eq_false (fun hh => h (hh.1 i hi))]
open Classical in
theorem org_end {o : List Rsc} (h : ∀ i, i < o.length → orgAt o i) : decide ((o.length : Int) ≤ 8) = mOriginOk o := by
  unfold mOriginOk
  by_cases hl : o.length ≤ 8
  · rw [decide_eq_true (by omega), decide_eq_true ⟨h, hl⟩]
  · rw [decide_eq_false (by omega), decide_eq_false (fun hh => hl hh.2)]
theorem org_parts {o : List Rsc} (h : md o) {i : Nat} (hi : i < o.length) : pUriOk (rx o (i : Int)).1 ∧ pOwnFields (rx o (i : Int)).2.2.2.2.2.2 := by
  have := org_mem h hi
  unfold md at this
  simp only [cz_pair] at this
  unfold pUriOk pOwnFields sm md
  have h1 : cz (rx o (i : Int)).1 = (rx o (i : Int)).1.size := rfl
  constructor <;> omega
theorem impl_OriginOk_ok (a0 : List Rsc) (h : pOriginOk a0) : s_impl_OriginOk a0 (fun r => r = mOriginOk a0) := by
  have hl : a0.length ≤ 1048576 := Nat.le_trans (cz_len a0) h
  intro L hL
  refine loopN hL a0.length (by omega) (fun i => ∀ j, j < i → orgAt a0 j) (fun i hi hI ih => ?_) (fun j hj => by omega)
  refine ⟨fun hlt => ?_, fun hge => org_end (fun j hj => hI j (by omega))⟩
  have hlt : i < a0.length := by omega
  obtain ⟨p1, p2⟩ := org_parts h hlt
  have hprev : 0 < (i : Int) → IntKind.i64.wrap ((i : Int) - 1) = ((i - 1 : Nat) : Int) := fun h0 => by rw [wrap64 (by omega) (by omega)]; omega
  have next : orgAt a0 i → L (IntKind.i64.wrap ((i : Int) + 1)) := fun ho => ih hlt (fun j hj => by
    by_cases e : j = i
    · subst e; exact ho
    · exact hI j (by omega))
  have nil : ∀ {P : Prop}, ¬ orgAt a0 i → false = mOriginOk a0 := fun hn => org_false hlt hn
  unfold orgAt resOk at next nil
  simp only [Bool.and_eq_true, decide_eq_true_eq] at next nil
  refine ⟨by omega, by omega, p1, fun c => org_false hlt (fun ho => ?_), fun c1 => ⟨fun h0 => ?_, fun h0 => ?_⟩⟩
  · unfold orgAt resOk at ho; simp only [Bool.and_eq_true] at ho; exact c ho.1.1.1.1.1.1
  · rw [hprev h0]
    refine ⟨by omega, by omega, fun c => org_false hlt (fun ho => ?_), fun c2 => ?_⟩
    · rcases ho.2 with ho | ho
      · omega
      · exact c ho
    · refine ⟨fun c => org_false hlt (fun ho => ?_), fun c3 => ⟨trivial, fun c => org_false hlt (fun ho => ?_), fun c4 => ⟨trivial, fun c => org_false hlt (fun ho => ?_), fun c5 => ⟨fun c => org_false hlt (fun ho => ?_), fun c6 => ⟨p2, fun c => org_false hlt (fun ho => ?_), fun c7 => next ?_⟩⟩⟩⟩⟩
      all_goals first
        | (unfold orgAt resOk at ho; simp only [Bool.and_eq_true, decide_eq_true_eq] at ho; obtain ⟨⟨⟨⟨⟨⟨ho1, ho2⟩, ho3⟩, ho4⟩, ho5⟩, ho6⟩, -⟩ := ho; first | omega | exact c ho3 | exact c ho4 | exact c ho6)
        | exact ⟨⟨⟨⟨⟨⟨Classical.not_not.1 c1, by omega⟩, Classical.not_not.1 c4⟩, Classical.not_not.1 c5⟩, by omega⟩, Classical.not_not.1 c7⟩, Or.inr (Classical.not_not.1 c2)⟩
  · have hz : i = 0 := by omega
    refine ⟨fun c => org_false hlt (fun ho => ?_), fun c3 => ⟨trivial, fun c => org_false hlt (fun ho => ?_), fun c4 => ⟨trivial, fun c => org_false hlt (fun ho => ?_), fun c5 => ⟨fun c => org_false hlt (fun ho => ?_), fun c6 => ⟨p2, fun c => org_false hlt (fun ho => ?_), fun c7 => next ?_⟩⟩⟩⟩⟩
    all_goals first
      | (unfold orgAt resOk at ho; simp only [Bool.and_eq_true, decide_eq_true_eq] at ho; obtain ⟨⟨⟨⟨⟨⟨ho1, ho2⟩, ho3⟩, ho4⟩, ho5⟩, ho6⟩, -⟩ := ho; first | omega | exact c ho3 | exact c ho4 | exact c ho6)
      | exact ⟨⟨⟨⟨⟨⟨Classical.not_not.1 c1, by omega⟩, Classical.not_not.1 c4⟩, Classical.not_not.1 c5⟩, by omega⟩, Classical.not_not.1 c7⟩, Or.inl hz⟩
theorem spec_OriginOk_ok (a0 : List Rsc) (h : pOriginOk a0) : s_spec_OriginOk a0 (fun r => r = mOriginOk a0) := by
  have hl : a0.length ≤ 1048576 := Nat.le_trans (cz_len a0) h
  intro L hL
  refine loopN hL a0.length (by omega) (fun i => ∀ j, j < i → orgAt a0 j) (fun i hi hI ih => ?_) (fun j hj => by omega)
  refine ⟨fun hlt => ?_, fun hge => org_end (fun j hj => hI j (by omega))⟩
  have hlt : i < a0.length := by omega
  obtain ⟨p1, p2⟩ := org_parts h hlt
  have hprev : 0 < (i : Int) → IntKind.i64.wrap ((i : Int) - 1) = ((i - 1 : Nat) : Int) := fun h0 => by rw [wrap64 (by omega) (by omega)]; omega
  have next : orgAt a0 i → L (IntKind.i64.wrap ((i : Int) + 1)) := fun ho => ih hlt (fun j hj => by
    by_cases e : j = i
    · subst e; exact ho
    · exact hI j (by omega))
  unfold orgAt resOk at next
  simp only [Bool.and_eq_true, decide_eq_true_eq] at next
  refine ⟨by omega, by omega, p1, fun c => org_false hlt (fun ho => ?_), fun c1 => ⟨fun c => org_false hlt (fun ho => ?_), fun c3 => ⟨trivial, fun c => org_false hlt (fun ho => ?_), fun c4 => ⟨trivial, fun c => org_false hlt (fun ho => ?_), fun c5 => ⟨p2, fun c => org_false hlt (fun ho => ?_), fun c7 => ⟨fun c => org_false hlt (fun ho => ?_), fun c6 => ⟨fun h0 => ?_, fun h0 => next ?_⟩⟩⟩⟩⟩⟩⟩
  case _ => unfold orgAt resOk at ho; simp only [Bool.and_eq_true] at ho; exact c ho.1.1.1.1.1.1
  case _ => unfold orgAt resOk at ho; simp only [Bool.and_eq_true, decide_eq_true_eq] at ho; have := ho.1.1.1.1.1.2; omega
  case _ => unfold orgAt resOk at ho; simp only [Bool.and_eq_true, decide_eq_true_eq] at ho; exact c ho.1.1.1.1.2
  case _ => unfold orgAt resOk at ho; simp only [Bool.and_eq_true, decide_eq_true_eq] at ho; exact c ho.1.1.1.2
  case _ => unfold orgAt resOk at ho; simp only [Bool.and_eq_true, decide_eq_true_eq] at ho; exact c ho.1.2
  case _ => unfold orgAt resOk at ho; simp only [Bool.and_eq_true, decide_eq_true_eq] at ho; have := ho.1.1.2; omega
  case _ =>
    rw [hprev h0]
    refine ⟨by omega, by omega, fun c => org_false hlt (fun ho => ?_), fun c2 => next ⟨⟨⟨⟨⟨⟨Classical.not_not.1 c1, by omega⟩, Classical.not_not.1 c4⟩, Classical.not_not.1 c5⟩, by omega⟩, Classical.not_not.1 c7⟩, Or.inr ?_⟩⟩
    · rcases ho.2 with ho | ho
      · omega
      · exact (strLt_not _ _).1 (c.imp id Eq.symm) ho
    · exact Classical.byContradiction fun hn => c2 (((strLt_not _ _).2 hn).imp id Eq.symm)
  case _ => exact ⟨⟨⟨⟨⟨⟨Classical.not_not.1 c1, by omega⟩, Classical.not_not.1 c4⟩, Classical.not_not.1 c5⟩, by omega⟩, Classical.not_not.1 c7⟩, Or.inl (by omega)⟩
end Go.Ev
end

section
/- Laws of the plain library: shards. -/
set_option linter.unusedVariables false
namespace Go.Ev
theorem impl_StoredOk_ok (a0 : Sto) (h : pStoredOk a0) : s_impl_StoredOk a0 (fun r => r = mStoredOk a0) := by
  have h1 : cz a0 ≤ 1048576 := h
  simp only [cz_pair] at h1
  have hs : cz a0.1 = a0.1.size := rfl
  have p1 : pUriOk a0.1 := by unfold pUriOk sm; omega
  have p2 : pResponseOk (a0.2.2.1, a0.2.2.2.1, a0.2.2.2.2.1) := by unfold pResponseOk md; simp only; omega
  unfold s_impl_StoredOk mStoredOk pIn
  grind
theorem spec_StoredOk_ok (a0 : Sto) (h : pStoredOk a0) : s_spec_StoredOk a0 (fun r => r = mStoredOk a0) := by
  have h1 : cz a0 ≤ 1048576 := h
  simp only [cz_pair] at h1
  have hs : cz a0.1 = a0.1.size := rfl
  have p1 : pUriOk a0.1 := by unfold pUriOk sm; omega
  have p2 : pResponseOk (a0.2.2.1, a0.2.2.2.1, a0.2.2.2.2.1) := by unfold pResponseOk md; simp only; omega
  unfold s_spec_StoredOk mStoredOk pIn
  grind
theorem sumN_take {l : List Nat} : ∀ {i : Nat} (h : i < l.length), sumN (l.take (i + 1)) = sumN (l.take i) + l[i] := by
  induction l with
  | nil => intro i h; simp at h
  | cons a l ih =>
    intro i h
    cases i with
    | zero => simp [sumN]
    | succ i =>
      have := ih (i := i) (by simpa using h)
      simp only [List.take_succ_cons, sumN, List.getElem_cons_succ] at this ⊢
      omega
theorem sumN_take_le {l : List Nat} : ∀ {i : Nat}, sumN (l.take i) ≤ sumN l := by
  induction l with
  | nil => intro i; simp
  | cons a l ih =>
    intro i
    cases i with
    | zero => simp [sumN]
    | succ i => have := ih (i := i); simp only [List.take_succ_cons, sumN] at this ⊢; omega
theorem bodies_le {r : List Slt} (h : cz r ≤ 1048576) : sumN (r.map fun x => x.2.2.2.2.1.size) ≤ 1048576 := by
  have key : ∀ r : List Slt, sumN (r.map fun x => x.2.2.2.2.1.size) ≤ sumN (r.map cz) := by
    intro r
    induction r with
    | nil => exact Nat.le_refl _
    | cons x r ih =>
      simp only [List.map_cons, sumN]
      have : x.2.2.2.2.1.size ≤ cz x := by simp only [cz_pair, cz_str]; omega
      omega
  have := key r
  rw [cz_list] at h
  omega
/-- The loop over the bodies. -/
def bodyB (r : List Slt) (Q : Int → Prop) (L : Int × Int → Prop) (y : Int × Int) : Prop :=
  (y.2 < (r.length : Int) → 0 ≤ y.2 ∧ y.2 < (r.length : Int) ∧ (L ((IntKind.i64.wrap (y.1 + ((rx r y.2).2.2.2.2.1.size : Int))), (IntKind.i64.wrap (y.2 + 1))))) ∧ (¬ (y.2 < (r.length : Int)) → (Q y.1))
theorem bodies_loop {r : List Slt} (h : cz r ≤ 1048576) {L : Int × Int → Prop} (hL : ∀ y, bodyB r (fun x => x = mBodies r) L y → L y) : L (0, 0) := by
  have hb := bodies_le h
  have hlen : r.length ≤ 1048576 := Nat.le_trans (cz_len r) h
  refine loopG hL r.length (fun i y => y.2 = (i : Int) ∧ y.1 = ((sumN ((r.map fun x => x.2.2.2.2.1.size).take i) : Nat) : Int)) (fun i y hi hI ih => ?_) ⟨rfl, by simp [sumN]⟩
  obtain ⟨h1, h2⟩ := hI
  have hle := sumN_take_le (l := r.map fun x => x.2.2.2.2.1.size) (i := i)
  unfold bodyB
  rw [h1, h2]
  refine ⟨fun hlt => ?_, fun hge => ?_⟩
  · have hlt : i < r.length := by omega
    have hle2 := sumN_take_le (l := r.map fun x => x.2.2.2.2.1.size) (i := i + 1)
    have hs := sumN_take (l := r.map fun x => x.2.2.2.2.1.size) (i := i) (by simpa using hlt)
    rw [List.getElem_map] at hs
    refine ⟨by omega, by omega, ih _ hlt ⟨?_, ?_⟩⟩
    · exact wrapS (by omega)
    · rw [rx_nat r i hlt, hs, wrap64 (by omega) (by omega)]; omega
  · have : i = r.length := by omega
    subst this
    rw [List.take_of_length_le (by simp)]; rfl
theorem impl_bodies_ok (a0 : List Slt) (h : pBodies a0) : s_impl_bodies a0 (fun r => r = mBodies a0) := fun L hL => bodies_loop h hL
theorem shd_ring {s : Shd} (h : md s) : cz s.2.2.1 ≤ 1048576 := by
  unfold md at h; simp only [cz_pair] at h; omega
theorem spec_l12Filled_ok (a0 : Shd) (h : pFilledS a0) : s_spec_l12Filled a0 (fun r => r = mFilledS a0) := fun L hL => bodies_loop (shd_ring h) hL
theorem alike_comm (a b : Sto) : mStandAlike a b = mStandAlike b a := by
  unfold mStandAlike
  rw [show (decide (a.1 = b.1)) = decide (b.1 = a.1) from decide_eq_decide.2 ⟨Eq.symm, Eq.symm⟩, show (decide (a.2.1 = b.2.1)) = decide (b.2.1 = a.2.1) from decide_eq_decide.2 ⟨Eq.symm, Eq.symm⟩]
theorem slt_md {r : List Slt} (h : cz r ≤ 1048576) {i : Nat} (hi : i < r.length) : md (stoOf (rx r (i : Int))) ∧ (rx r (i : Int)).2.1.length ≤ maxLen := by
  rw [rx_nat r i hi]
  have h1 := cz_mem (List.getElem_mem hi : r[i] ∈ r)
  have h2 := cz_len r[i].2.1
  unfold md stoOf
  simp only [cz_pair] at h1 ⊢
  simp only [maxLen]
  constructor <;> omega
/-- impl's loop over the ring. -/
def ringBodyI (r : List Slt) (Q : Bool → Prop) (E : Prop) (L : Int → Prop) (y1 : Int) : Prop :=
  (y1 < (r.length : Int) →
    0 ≤ y1 ∧
    y1 < (r.length : Int) ∧
    pStoredOk (stoOf (rx r y1)) ∧
    (¬ ((mStoredOk (stoOf (rx r y1))) = true) →
      (Q false)) ∧
    (¬ (¬ ((mStoredOk (stoOf (rx r y1))) = true)) →
      0 ≤ y1 ∧
      y1 ≤ (r.length : Int) ∧
      pContainsFunc_ShardOk_1 (r.take y1.toNat) (rx r y1) ∧
      ((mContainsFunc_ShardOk_1 (r.take y1.toNat) (rx r y1)) = true →
        (Q false)) ∧
      (¬ ((mContainsFunc_ShardOk_1 (r.take y1.toNat) (rx r y1)) = true) →
        (L (IntKind.i64.wrap (y1 + 1)))))) ∧
  (¬ (y1 < (r.length : Int)) → E)
def ringAt (r : List Slt) (i : Nat) : Prop := mStoredOk (stoOf (rx r (i : Int))) = true ∧ ∀ j, j < i → mStandAlike (stoOf (rx r (j : Int))) (stoOf (rx r (i : Int))) = false
theorem ring_has {r : List Slt} {i : Nat} (hi : i < r.length) : mContainsFunc_ShardOk_1 (r.take i) (rx r (i : Int)) = true ↔ ∃ j, j < i ∧ mStandAlike (stoOf (rx r (j : Int))) (stoOf (rx r (i : Int))) = true := by
  unfold mContainsFunc_ShardOk_1 mShardOk_1
  rw [List.any_eq_true]
  constructor
  · rintro ⟨y, hy, hs⟩
    obtain ⟨j, hj, rfl⟩ := List.mem_iff_getElem.1 hy
    have hj' : j < i := by simp at hj; omega
    refine ⟨j, hj', ?_⟩
    rw [alike_comm, rx_nat r j (by omega)]
    rw [List.getElem_take] at hs; exact hs
  · rintro ⟨j, hj, hs⟩
    refine ⟨(r.take i)[j]'(by simp; omega), List.getElem_mem _, ?_⟩
    rw [alike_comm, rx_nat r j (by omega)] at hs
    rw [List.getElem_take]; exact hs
theorem ring_impl {r : List Slt} (h : cz r ≤ 1048576) {Q : Bool → Prop} {E : Prop} (hf : ¬ ringFine r → Q false) (hE : ringFine r → E) {L : Int → Prop} (hL : ∀ y, ringBodyI r Q E L y → L y) : L 0 := by
  have hlen : r.length ≤ 1048576 := Nat.le_trans (cz_len r) h
  refine loopN hL r.length (by omega) (fun i => ∀ j, j < i → ringAt r j) (fun i hi hI ih => ?_) (fun j hj => by omega)
  refine ⟨fun hlt => ?_, fun hge => hE fun j hj => hI j (by omega)⟩
  have hlt : i < r.length := by omega
  obtain ⟨p1, p2⟩ := slt_md h hlt
  refine ⟨by omega, by omega, p1, fun c => hf fun ho => c (ho i hlt).1, fun c => ⟨by omega, by omega, ⟨by simp only [List.length_take, maxLen]; omega, p2⟩, fun c2 => hf fun ho => ?_, fun c2 => ?_⟩⟩
  · rw [Int.toNat_natCast] at c2
    obtain ⟨j, hj, hs⟩ := (ring_has hlt).1 c2
    rw [(ho i hlt).2 j hj] at hs
    cases hs
  · rw [Int.toNat_natCast] at c2
    refine ih hlt fun j hj => ?_
    by_cases e : j = i
    · subst e
      exact ⟨Classical.not_not.1 c, fun k hk => by
        rw [← Bool.not_eq_true]
        exact fun hs => c2 ((ring_has hlt).2 ⟨k, hk, hs⟩)⟩
    · exact hI j (by omega)
/-- spec's. -/
def ringBodyS2 (r : List Slt) (Q : Bool → Prop) (N : Int → Prop) (y1 : Int) (L : Int → Prop) (y3 : Int) : Prop :=
  (y3 < y1 →
    0 ≤ y3 ∧
    y3 < (r.length : Int) ∧
    0 ≤ y1 ∧
    y1 < (r.length : Int) ∧
    pStandAlike (stoOf (rx r y3)) (stoOf (rx r y1)) ∧
    ((mStandAlike (stoOf (rx r y3)) (stoOf (rx r y1))) = true →
      (Q false)) ∧
    (¬ ((mStandAlike (stoOf (rx r y3)) (stoOf (rx r y1))) = true) →
      (L (IntKind.i64.wrap (y3 + 1))))) ∧
  (¬ (y3 < y1) →
    (N (IntKind.i64.wrap (y1 + 1))))
def ringBodyS (r : List Slt) (Q : Bool → Prop) (L : Int → Prop) (y1 : Int) : Prop :=
  (y1 < (r.length : Int) →
    0 ≤ y1 ∧
    y1 < (r.length : Int) ∧
    pStoredOk (stoOf (rx r y1)) ∧
    (¬ ((mStoredOk (stoOf (rx r y1))) = true) →
      (Q false)) ∧
    (¬ (¬ ((mStoredOk (stoOf (rx r y1))) = true)) →
      (∀ L2 : (Int → Prop), (∀ y3, ringBodyS2 r Q L y1 L2 y3 → L2 y3) → L2 0))) ∧
  (¬ (y1 < (r.length : Int)) → Q true)
theorem ring_spec {r : List Slt} (h : cz r ≤ 1048576) {Q : Bool → Prop} (hf : ¬ ringFine r → Q false) (hE : ringFine r → Q true) {L : Int → Prop} (hL : ∀ y, ringBodyS r Q L y → L y) : L 0 := by
  have hlen : r.length ≤ 1048576 := Nat.le_trans (cz_len r) h
  refine loopN hL r.length (by omega) (fun i => ∀ j, j < i → ringAt r j) (fun i hi hI ih => ?_) (fun j hj => by omega)
  refine ⟨fun hlt => ?_, fun hge => hE fun j hj => hI j (by omega)⟩
  have hlt : i < r.length := by omega
  obtain ⟨p1, p2⟩ := slt_md h hlt
  refine ⟨by omega, by omega, p1, fun c => hf fun ho => c (ho i hlt).1, fun c => fun L2 hL2 => ?_⟩
  refine loopN hL2 i (by omega) (fun k => ∀ j, j < k → mStandAlike (stoOf (rx r (j : Int))) (stoOf (rx r (i : Int))) = false) (fun k hk hK ih2 => ?_) (fun j hj => by omega)
  refine ⟨fun hk1 => ?_, fun hk1 => ih hlt fun j hj => ?_⟩
  · have hk1 : k < i := by omega
    obtain ⟨q1, q2⟩ := slt_md h (show k < r.length by omega)
    refine ⟨by omega, by omega, by omega, by omega, q2, fun c2 => hf fun ho => ?_, fun c2 => ih2 hk1 fun j hj => ?_⟩
    · rw [(ho i hlt).2 k hk1] at c2; cases c2
    · by_cases e : j = k
      · subst e; rw [← Bool.not_eq_true]; exact c2
      · exact hK j (by omega)
  · by_cases e : j = i
    · subst e; exact ⟨Classical.not_not.1 c, fun j' hj' => hK j' (by omega)⟩
    · exact hI j (by omega)
open Classical in
theorem impl_ShardOk_ok (a0 : Shd) (h : pShardOk a0) : s_impl_ShardOk a0 (fun r => r = mShardOk a0) := by
  have hr := shd_ring h
  have hlen : a0.2.2.1.length ≤ 1048576 := Nat.le_trans (cz_len _) hr
  have hw : IntKind.i64.wrap ((a0.2.2.1.length : Int) - 1) = (a0.2.2.1.length : Int) - 1 := wrap64 (by omega) (by omega)
  unfold s_impl_ShardOk
  rw [hw]
  refine ⟨trivial, fun c => ?_, fun c1 => ⟨fun c => ?_, fun c2 => ⟨fun c3 => ⟨trivial, fun c => ?_, fun c4 => fun L hL => ring_impl (Q := fun r => r = mShardOk a0) (E := pBodies a0.2.2.1 ∧ decide (mBodies a0.2.2.1 ≤ a0.2.1) = mShardOk a0) hr ?_ ?_ hL⟩, fun c3 => fun L hL => ring_impl (Q := fun r => r = mShardOk a0) (E := pBodies a0.2.2.1 ∧ decide (mBodies a0.2.2.1 ≤ a0.2.1) = mShardOk a0) hr ?_ ?_ hL⟩⟩⟩
  · unfold mShardOk; rw [Bool.not_eq_true] at c; rw [c]; rfl
  · unfold mShardOk; rw [decide_eq_false (show ¬ (a0.2.2.1.length : Int) ≤ a0.1 by omega)]; simp
  · unfold mShardOk; rw [Bool.not_eq_true] at c; rw [c, decide_eq_false c3]; simp
  · intro hn; unfold mShardOk; rw [decide_eq_false hn]; simp
  · intro hn
    refine ⟨hr, ?_⟩
    unfold mShardOk; rw [decide_eq_true hn, Classical.not_not.1 c1, Classical.not_not.1 c4, decide_eq_true (show (a0.2.2.1.length : Int) ≤ a0.1 by omega)]; simp
  · intro hn; unfold mShardOk; rw [decide_eq_false hn]; simp
  · intro hn
    refine ⟨hr, ?_⟩
    unfold mShardOk; rw [decide_eq_true hn, Classical.not_not.1 c1, decide_eq_true (Classical.not_not.1 c3), decide_eq_true (show (a0.2.2.1.length : Int) ≤ a0.1 by omega)]; simp
open Classical in
theorem spec_ShardOk_ok (a0 : Shd) (h : pShardOk a0) : s_spec_ShardOk a0 (fun r => r = mShardOk a0) := by
  have hr := shd_ring h
  have hlen : a0.2.2.1.length ≤ 1048576 := Nat.le_trans (cz_len _) hr
  have hw : IntKind.i64.wrap ((a0.2.2.1.length : Int) - 1) = (a0.2.2.1.length : Int) - 1 := wrap64 (by omega) (by omega)
  unfold s_spec_ShardOk
  rw [hw]
  refine ⟨trivial, fun c => ?_, fun c1 => ⟨trivial, fun c => ?_, fun c1b => ⟨fun c => ?_, fun c2 => ⟨h, fun c => ?_, fun c5 => ⟨fun c3 => ⟨trivial, fun c => ?_, fun c4 => fun L hL => ring_spec (Q := fun r => r = mShardOk a0) hr ?_ ?_ hL⟩, fun c3 => fun L hL => ring_spec (Q := fun r => r = mShardOk a0) hr ?_ ?_ hL⟩⟩⟩⟩⟩
  · unfold mShardOk mShardSizes; rw [Bool.not_eq_true] at c; rw [c]; rfl
  · unfold mShardOk mShardSizes; rw [Bool.not_eq_true] at c; rw [c]; simp
  · unfold mShardOk; rw [decide_eq_false (show ¬ (a0.2.2.1.length : Int) ≤ a0.1 by omega)]; simp
  · unfold mFilledS at c; unfold mShardOk; rw [decide_eq_false (show ¬ mBodies a0.2.2.1 ≤ a0.2.1 by omega)]; simp
  · unfold mShardOk; rw [Bool.not_eq_true] at c; rw [c, decide_eq_false c3]; simp
  · intro hn; unfold mShardOk; rw [decide_eq_false hn]; simp
  · intro hn
    unfold mFilledS at c5
    unfold mShardOk mShardSizes; rw [decide_eq_true hn, Classical.not_not.1 c1, Classical.not_not.1 c1b, Classical.not_not.1 c4, decide_eq_true (show (a0.2.2.1.length : Int) ≤ a0.1 by omega), decide_eq_true (show mBodies a0.2.2.1 ≤ a0.2.1 by omega)]; simp
  · intro hn; unfold mShardOk; rw [decide_eq_false hn]; simp
  · intro hn
    unfold mFilledS at c5
    unfold mShardOk mShardSizes; rw [decide_eq_true hn, Classical.not_not.1 c1, Classical.not_not.1 c1b, decide_eq_true (Classical.not_not.1 c3), decide_eq_true (show (a0.2.2.1.length : Int) ≤ a0.1 by omega), decide_eq_true (show mBodies a0.2.2.1 ≤ a0.2.1 by omega)]; simp
theorem impl_Filled_ok (a0 : Shd) (h : pFilled a0) : s_impl_Filled a0 (fun r => r = mFilled a0) :=
  ⟨h, fun c => by unfold mFilled; rw [if_neg c], fun c => ⟨shd_ring h, by unfold mFilled; rw [if_pos (Classical.not_not.1 c)]⟩⟩
theorem spec_Filled_ok (a0 : Shd) (h : pFilled a0) : s_spec_Filled a0 (fun r => r = mFilled a0) :=
  ⟨h, fun c => by unfold mFilled; rw [if_neg c], fun c => ⟨h, by unfold mFilled; rw [if_pos (Classical.not_not.1 c)]; rfl⟩⟩
end Go.Ev
end

section
/- Laws of the plain library, fifth part: lists in texts. -/
set_option linter.unusedVariables false
namespace Go.Ev

theorem drop_cons' {α : Type} {l : List α} {i : Nat} (h : i < l.length) : l.drop i = l[i] :: l.drop (i + 1) := (List.getElem_cons_drop (h := h)).symm
theorem seg_succ {α : Type} {l : List α} {f i : Nat} (hf : f ≤ i) (h : i < l.length) : (l.take (i + 1)).drop f = (l.take i).drop f ++ [l[i]] := by
  rw [take_succ_app h, List.drop_append_of_le_length (by rw [List.length_take]; omega)]
theorem seg_all {α : Type} {l : List α} {f i : Nat} (hf : f ≤ i) (hi : i ≤ l.length) : (l.take i).drop f ++ l.drop i = l.drop f := by
  conv => rhs; rw [← List.take_append_drop i l]
  rw [List.drop_append_of_le_length (by rw [List.length_take]; omega)]
theorem commasL_nil (q : Bool) (i : Int) : commasL q i [] = [] := by cases q <;> rfl
theorem commasL_one (i : Int) (b : UInt8) : commasL true i [b] = [] := rfl
theorem commasL_in (i : Int) (b c : UInt8) (r : List UInt8) : commasL true i (b :: c :: r) = if b = 34 then commasL false (i + 1) (c :: r) else if b = 92 then commasL true (i + 2) r else commasL true (i + 1) (c :: r) := by rw [commasL]
theorem commasL_out (i : Int) (b : UInt8) (r : List UInt8) : commasL false i (b :: r) = if b = 34 then commasL true (i + 1) r else if b = 44 then i :: commasL false (i + 1) r else commasL false (i + 1) r := by rw [commasL]
/-- The parts, by the places of the commas. -/
def cutAt (l : List UInt8) : Nat → List Int → List (List UInt8)
  | f, [] => [l.drop f]
  | f, a :: az => (l.take a.toNat).drop f :: cutAt l (a.toNat + 1) az
def okC (n : Nat) : Nat → List Int → Prop
  | f, [] => f ≤ n
  | f, a :: az => (f : Int) ≤ a ∧ a < (n : Int) ∧ okC n (a.toNat + 1) az
theorem parts_cut (l : List UInt8) : ∀ (m : Nat) (q : Bool) (i f : Nat), i + m = l.length → f ≤ i →
    partsL q ((l.take i).drop f) (l.drop i) = cutAt l f (commasL q (i : Int) (l.drop i)) ∧ okC l.length f (commasL q (i : Int) (l.drop i)) := by
  intro m
  induction m using Nat.strongRecOn with
  | _ m ih =>
    intro q i f hi hf
    cases m with
    | zero =>
      have e : l.drop i = [] := List.drop_eq_nil_of_le (by omega)
      have e2 : l.take i = l := List.take_of_length_le (by omega)
      rw [e, partsL_nil, commasL_nil, e2]
      exact ⟨rfl, by show f ≤ l.length; omega⟩
    | succ m =>
      have hlt : i < l.length := by omega
      have hc := drop_cons' hlt
      have hs := seg_succ hf hlt
      have step := fun (q' : Bool) => ih m (by omega) q' (i + 1) f (by omega) (by omega)
      have hcast : ((i + 1 : Nat) : Int) = (i : Int) + 1 := by omega
      cases q with
      | false =>
        rw [hc, partsL_out, commasL_out, ← hs, ← hcast]
        split
        · exact step true
        · split
          · have h0 := ih m (by omega) false (i + 1) (i + 1) (by omega) (Nat.le_refl _)
            have e0 : (l.take (i + 1)).drop (i + 1) = [] := List.drop_eq_nil_of_le (by rw [List.length_take]; omega)
            rw [e0] at h0
            simp only [cutAt, okC, Int.toNat_natCast]
            exact ⟨by rw [h0.1], by omega, by omega, h0.2⟩
          · exact step false
      | true =>
        cases m with
        | zero =>
          have e : l.drop (i + 1) = [] := List.drop_eq_nil_of_le (by omega)
          have ha := seg_all hf (Nat.le_of_lt hlt)
          rw [hc, e] at ha
          rw [hc, e, partsL_one, commasL_one, ha]
          exact ⟨rfl, by show f ≤ l.length; omega⟩
        | succ m =>
          have hlt1 : i + 1 < l.length := by omega
          have hc1 := drop_cons' hlt1
          rw [hc, hc1, partsL_in, commasL_in, ← hc1, ← hs, ← hcast]
          split
          · exact step false
          · split
            · have h2 := ih m (by omega) true (i + 2) f (by omega) (by omega)
              have hs2 := seg_succ (f := f) (i := i + 1) (by omega) hlt1
              rw [hs, List.append_assoc] at hs2
              rw [show (l.take i).drop f ++ [l[i], l[i + 1]] = (l.take (i + 2)).drop f from hs2.symm, show (i : Int) + 2 = ((i + 2 : Nat) : Int) by omega]
              exact h2
            · exact step true
theorem trimmed_cons (p : List UInt8) (l : List (List UInt8)) : trimmed (p :: l) = if mTrim (ob p) ≠ lit [] then mTrim (ob p) :: trimmed l else trimmed l := by
  unfold trimmed
  rw [List.map_cons, List.filter_cons]
  split
  · next h => rw [if_pos (by simpa using h)]
  · next h => rw [if_neg (by simpa using h)]
theorem trimmed_nil : trimmed [] = [] := rfl
theorem ext_seg (s : S) (f a : Nat) : s.extract f a = ob (((bs s).take a).drop f) := by
  apply bs_inj
  rw [bs_extract, bs_ob, List.drop_take]
theorem byte_eq {s : S} {i : Nat} (h : i < s.size) (n : Nat) (hn : n < 256) : bt s (i : Int) = (n : Int) ↔ (bs s)[i]'(by rw [bs_len]; exact h) = UInt8.ofNat n := by
  rw [bt_nat s i h]
  constructor
  · intro e
    have e' : ((bs s)[i]'(by rw [bs_len]; exact h)).toNat = n := by omega
    rw [← e']; simp
  · intro e
    rw [e]
    simp
    omega
theorem commas_len : ∀ (q : Bool) (i : Int) (l : List UInt8), (commasL q i l).length ≤ l.length
  | q, i, [] => by rw [commasL_nil]; simp
  | true, i, [b] => by rw [commasL_one]; simp
  | true, i, b :: c :: r => by
    rw [commasL_in]
    have h1 := commas_len false (i + 1) (c :: r)
    have h2 := commas_len true (i + 2) r
    have h3 := commas_len true (i + 1) (c :: r)
    simp only [List.length_cons] at *
    split
    · omega
    · split <;> omega
  | false, i, b :: r => by
    rw [commasL_out]
    have h1 := commas_len true (i + 1) r
    have h2 := commas_len false (i + 1) r
    simp only [List.length_cons] at *
    split
    · omega
    · split
      · simp only [List.length_cons]; omega
      · omega

theorem impl_commas_ok (a0 : S) (h : pCommas a0) : s_impl_commas a0 (fun r => r = mCommas a0) := by
  unfold pCommas sm at h
  intro L hL
  have hl := bs_len a0
  refine loopI hL (fun y => ∃ i : Nat, y.2.2 = (i : Int) ∧ i ≤ a0.size + 1 ∧ y.1.length ≤ i ∧ (i ≤ a0.size → y.1 ++ commasL y.2.1 (i : Int) ((bs a0).drop i) = mCommas a0) ∧ (i = a0.size + 1 → y.1 = mCommas a0))
    (fun y => a0.size + 1 - y.2.2.toNat) (fun y hI ih => ?_) ([], false, 0) ⟨0, rfl, by omega, by simp, fun _ => rfl, fun h => by omega⟩
  obtain ⟨out, q, y3⟩ := y
  obtain ⟨i, hy, hi, hol, h1, h2⟩ := hI
  simp only at hy hol h1 h2 ⊢
  subst hy
  refine ⟨fun hlt => ?_, fun hge => ?_⟩
  · have hi2 : i < a0.size := by omega
    have hi3 : i < (bs a0).length := by omega
    have h1 := h1 (by omega)
    have hc := drop_cons' hi3
    have hw : IntKind.i64.wrap ((i : Int) + 1) = ((i + 1 : Nat) : Int) := wrapS (by omega)
    have hw2 : IntKind.i64.wrap (((i + 1 : Nat) : Int) + 1) = ((i + 2 : Nat) : Int) := by rw [wrapS (by omega)]
    have b34 : bt a0 (i : Int) = 34 ↔ _ := byte_eq hi2 34 (by omega)
    have b92 : bt a0 (i : Int) = 92 ↔ _ := byte_eq hi2 92 (by omega)
    have b44 : bt a0 (i : Int) = 44 ↔ _ := byte_eq hi2 44 (by omega)
    have next : ∀ (out' : List Int) (q' : Bool), out'.length ≤ i + 1 → out' ++ commasL q' ((i : Int) + 1) ((bs a0).drop (i + 1)) = mCommas a0 → L (out', q', ((i + 1 : Nat) : Int)) := fun out' q' hlen e =>
      ih _ ⟨i + 1, rfl, by omega, hlen, fun _ => by rw [← e]; congr 2, fun hh => by omega⟩ (by simp only [Int.toNat_natCast]; omega)
    rw [hw, hw2]
    rw [hc] at h1
    have hq34 : bt a0 (i : Int) = 34 → commasL q (i : Int) ((bs a0)[i] :: (bs a0).drop (i + 1)) = commasL (!q) ((i : Int) + 1) ((bs a0).drop (i + 1)) := fun e => by
      have e' := b34.1 e
      cases q with
      | false => rw [commasL_out, if_pos (by rw [e']; rfl)]; rfl
      | true =>
        cases hr : (bs a0).drop (i + 1) with
        | nil => rw [commasL_one, commasL_nil]
        | cons c r => rw [commasL_in, if_pos (by rw [e']; rfl)]; rfl
    have n34 : bt a0 (i : Int) ≠ 34 → ¬ (bs a0)[i] = 34 := fun e e' => e (b34.2 e')
    have n92 : bt a0 (i : Int) ≠ 92 → ¬ (bs a0)[i] = 92 := fun e e' => e (b92.2 e')
    have n44 : bt a0 (i : Int) ≠ 44 → ¬ (bs a0)[i] = 44 := fun e e' => e (b44.2 e')
    have plain_in : bt a0 (i : Int) ≠ 34 → bt a0 (i : Int) ≠ 92 → q = true → commasL q (i : Int) ((bs a0)[i] :: (bs a0).drop (i + 1)) = commasL q ((i : Int) + 1) ((bs a0).drop (i + 1)) := fun e1 e2 eq => by
      subst eq
      cases hr : (bs a0).drop (i + 1) with
      | nil => rw [commasL_one, commasL_nil]
      | cons c r => rw [commasL_in, if_neg (n34 e1), if_neg (n92 e2)]
    refine ⟨by omega, by omega, fun e34 => next _ _ (by omega) ?_, fun e34 => ⟨fun eq => ⟨by omega, by omega, fun e92 => ?_, fun e92 => ⟨fun nq => absurd eq nq, fun _ => next _ _ (by omega) ?_⟩⟩, fun nq => ⟨fun _ => ⟨by omega, by omega, fun e44 => ?_, fun e44 => next _ _ (by omega) ?_⟩, fun qq => absurd nq qq⟩⟩⟩
    · rw [← h1, hq34 e34]
      cases q <;> rfl
    · -- a byte behind a backslash is passed over
      have e' := b92.1 e92
      subst eq
      refine ih _ ⟨i + 2, rfl, by omega, by simp only; omega, fun hle => ?_, fun hle => ?_⟩ (by simp only [Int.toNat_natCast]; omega)
      · have hi4 : i + 1 < (bs a0).length := by omega
        rw [drop_cons' hi4, commasL_in, if_neg (n34 e34), if_pos (by rw [e']; rfl)] at h1
        rw [← h1]
        simp only
        congr 2
      · have : (bs a0).drop (i + 1) = [] := List.drop_eq_nil_of_le (by omega)
        rw [this, commasL_one] at h1
        simpa using h1
    · rw [← h1, plain_in e34 e92 eq]
    · have e' := b44.1 e44
      have hq : q = false := by simpa using nq
      subst hq
      rw [commasL_out, if_neg (n34 e34), if_pos (by rw [e']; rfl)] at h1
      refine ⟨by simp only [List.length_singleton]; omega, next _ _ (by simp only [List.length_append, List.length_singleton]; omega) ?_⟩
      rw [← h1]; simp
    · have hq : q = false := by simpa using nq
      subst hq
      rw [commasL_out, if_neg (n34 e34), if_neg (n44 e44)] at h1
      exact h1
  · have : i = a0.size ∨ i = a0.size + 1 := by omega
    rcases this with e | e
    · have h1 := h1 (by omega)
      have : (bs a0).drop i = [] := List.drop_eq_nil_of_le (by omega)
      rw [this, commasL_nil, List.append_nil] at h1
      exact h1
    · exact h2 e

theorem impl_SplitList_ok (a0 : S) (h : pSplitList a0) : s_impl_SplitList a0 (fun r => r = mSplitList a0) := by
  have h0 := h
  unfold pSplitList sm at h
  have hl := bs_len a0
  have hpc := parts_cut (bs a0) a0.size false 0 0 (by omega) (Nat.le_refl _)
  rw [List.drop_zero, hl] at hpc
  have hcl := commas_len false 0 (bs a0)
  have hC : mCommas a0 = commasL false (((0 : Nat) : Int)) (bs a0) := rfl
  have hM : mSplitList a0 = trimmed (cutAt (bs a0) 0 (mCommas a0)) := by
    unfold mSplitList
    rw [hC]
    exact congrArg trimmed hpc.1
  have hok : okC a0.size 0 (mCommas a0) := hpc.2
  have hclen : (mCommas a0).length ≤ a0.size := by rw [← hl]; exact hcl
  refine ⟨h0, by simp only [List.length_singleton]; omega, fun L hL => ?_⟩
  generalize mCommas a0 = C at hM hok hclen hL
  have hEl : (C ++ [(a0.size : Int)]).length = C.length + 1 := by simp
  refine loopG hL (C.length + 1) (fun k y => y.2.2 = (k : Int) ∧ y.1.length ≤ k ∧ (k ≤ C.length → ∃ f : Nat, y.2.1 = (f : Int) ∧ f ≤ a0.size ∧ okC a0.size f (C.drop k) ∧ y.1 ++ trimmed (cutAt (bs a0) f (C.drop k)) = mSplitList a0) ∧ (k = C.length + 1 → y.1 = mSplitList a0))
    (fun k y hk hI hn => ?_) (s0 := ([], 0, 0)) ⟨rfl, by simp, fun _ => ⟨0, rfl, by omega, hok, by rw [hM]; rfl⟩, fun h => by omega⟩
  obtain ⟨out, y2, y3⟩ := y
  simp only at hI ⊢
  obtain ⟨rfl, hol, h1, h2⟩ := hI
  rw [hEl]
  refine ⟨fun hlt => ?_, fun hge => h2 (by omega)⟩
  have hk2 : k ≤ C.length := by omega
  obtain ⟨f, rfl, hf, hokf, hout⟩ := h1 hk2
  have hw : IntKind.i64.wrap ((k : Int) + 1) = ((k + 1 : Nat) : Int) := wrapS (by omega)
  rw [hw]
  -- the end of this part
  have key : ∀ a : Nat, rx (C ++ [(a0.size : Int)]) (k : Int) = (a : Int) → f ≤ a → a ≤ a0.size →
      (∀ out' : List S, out' = (if mTrim (ob (((bs a0).take a).drop f)) ≠ lit [] then out ++ [mTrim (ob (((bs a0).take a).drop f))] else out) → L (out', ((a + 1 : Nat) : Int), ((k + 1 : Nat) : Int))) →
      0 ≤ (k : Int) ∧ (k : Int) < ((C.length + 1 : Nat) : Int) ∧ 0 ≤ (f : Int) ∧ (f : Int) ≤ rx (C ++ [(a0.size : Int)]) (k : Int) ∧ rx (C ++ [(a0.size : Int)]) (k : Int) ≤ (a0.size : Int) ∧
        pTrim (a0.extract ((f : Int).toNat) (rx (C ++ [(a0.size : Int)]) (k : Int)).toNat) ∧
        (mTrim (a0.extract ((f : Int).toNat) (rx (C ++ [(a0.size : Int)]) (k : Int)).toNat) ≠ lit [] →
          (out.length + [mTrim (a0.extract ((f : Int).toNat) (rx (C ++ [(a0.size : Int)]) (k : Int)).toNat)].length) * 16 ≤ 140737488355328 ∧
            L (out ++ [mTrim (a0.extract ((f : Int).toNat) (rx (C ++ [(a0.size : Int)]) (k : Int)).toNat)], IntKind.i64.wrap (rx (C ++ [(a0.size : Int)]) (k : Int) + 1), ((k + 1 : Nat) : Int))) ∧
        (¬ mTrim (a0.extract ((f : Int).toNat) (rx (C ++ [(a0.size : Int)]) (k : Int)).toNat) ≠ lit [] →
          L (out, IntKind.i64.wrap (rx (C ++ [(a0.size : Int)]) (k : Int) + 1), ((k + 1 : Nat) : Int))) := by
    intro a ha hfa has hcont
    rw [ha, Int.toNat_natCast, Int.toNat_natCast, wrapS (by omega), ext_seg]
    refine ⟨by omega, by omega, by omega, by omega, by omega, ?_, fun hne => ⟨by simp only [List.length_singleton]; omega, hcont _ (by rw [if_pos hne])⟩, fun hne => hcont _ (by rw [if_neg hne])⟩
    unfold pTrim sm
    rw [ob_size, List.length_drop, List.length_take]
    omega
  by_cases hkC : k < C.length
  · have hc := drop_cons' hkC
    rw [hc] at hokf hout
    simp only [okC] at hokf
    obtain ⟨o1, o2, o3⟩ := hokf
    have hrx : rx (C ++ [(a0.size : Int)]) (k : Int) = (C[k].toNat : Int) := by
      rw [rx_get _ (by rw [hEl]; omega), List.getElem_append_left hkC]; omega
    refine key C[k].toNat hrx (by omega) (by omega) fun out' ho => hn _ (by omega) ⟨rfl, ?_, fun _ => ⟨C[k].toNat + 1, rfl, by omega, o3, ?_⟩, fun h => by omega⟩
    · rw [ho]; split
      · simp only [List.length_append, List.length_singleton]; omega
      · simp only; omega
    · simp only [cutAt] at hout
      rw [trimmed_cons] at hout
      rw [ho, ← hout]
      split
      · simp
      · rfl
  · have hkeq : k = C.length := by omega
    have hdn : C.drop k = [] := List.drop_eq_nil_of_le (by omega)
    rw [hdn] at hout
    simp only [cutAt] at hout
    have hrx : rx (C ++ [(a0.size : Int)]) (k : Int) = (a0.size : Int) := by
      rw [rx_get _ (by rw [hEl]; omega), List.getElem_append_right (by omega)]
      simp [hkeq]
    refine key a0.size hrx hf (Nat.le_refl _) fun out' ho => hn _ (by omega) ⟨rfl, ?_, fun h => by omega, fun _ => ?_⟩
    · rw [ho]; split
      · simp only [List.length_append, List.length_singleton]; omega
      · simp only; omega
    · have e : (bs a0).take a0.size = bs a0 := List.take_of_length_le (by omega)
      rw [trimmed_cons, trimmed_nil] at hout
      rw [ho, ← hout, e]
      split
      · rfl
      · simp
end Go.Ev
end

section
/- Laws of the plain library: lists of parts, as spec takes them. -/
set_option linter.unusedVariables false
namespace Go.Ev
theorem partsL_end (q : Bool) (cur : List UInt8) : partsL q cur [] = [cur] := by cases q <;> rfl
theorem parts_q {l : List UInt8} {f i : Nat} (hf : f ≤ i) (h : i < l.length) : partsL true ((l.take i).drop f) (l.drop i) =
    if l[i] = 34 then partsL false ((l.take (i + 1)).drop f) (l.drop (i + 1))
    else if l[i] = 92 then (if i + 1 < l.length then partsL true ((l.take (i + 2)).drop f) (l.drop (i + 2)) else [l.drop f])
    else partsL true ((l.take (i + 1)).drop f) (l.drop (i + 1)) := by
  have hc := drop_cons' h
  have hs := seg_succ (f := f) hf h
  by_cases hl : i + 1 < l.length
  · have hc1 := drop_cons' hl
    have hs2 := seg_succ (f := f) (i := i + 1) (by omega) hl
    rw [hc, hc1, partsL_in, ← hc1, if_pos hl, hs]
    rw [hs, List.append_assoc] at hs2
    have hs2 : List.drop f (List.take (i + 2) l) = List.drop f (List.take i l) ++ [l[i], l[i + 1]] := hs2
    rw [hs2]
  · have hn : l.drop (i + 1) = [] := List.drop_eq_nil_of_le (by omega)
    have ha : (l.take (i + 1)).drop f = l.drop f := by rw [List.take_of_length_le (by omega)]
    rw [hc, hn, partsL_one, ← hs, partsL_end, partsL_end, if_neg hl, ha]
    split
    · rfl
    · split <;> rfl
theorem spec_SplitList_ok (a0 : S) (h : pSplitList a0) : s_spec_SplitList a0 (fun r => r = mSplitList a0) := by
  unfold pSplitList sm at h
  intro L hL
  have hl := bs_len a0
  refine loopI hL (fun y => ∃ f i : Nat, y.2.1 = (f : Int) ∧ y.2.2.2 = (i : Int) ∧ i ≤ a0.size + 1 ∧ y.1.length ≤ i ∧
      (i ≤ a0.size → f ≤ i ∧ y.1 ++ trimmed (partsL y.2.2.1 (((bs a0).take i).drop f) ((bs a0).drop i)) = mSplitList a0) ∧
      (i = a0.size + 1 → (f < a0.size → y.2.2.1 = true ∧ y.1 ++ trimmed [(bs a0).drop f] = mSplitList a0) ∧ (¬ f < a0.size → y.1 = mSplitList a0)))
    (fun y => a0.size + 1 - y.2.2.2.toNat) (fun y hI ih => ?_) ([], 0, false, 0) ⟨0, 0, rfl, rfl, by omega, by simp, fun _ => ⟨by omega, rfl⟩, fun h => by omega⟩
  obtain ⟨out, y2, q, y4⟩ := y
  obtain ⟨f, i, hy2, hy4, hi, hol, h1, h2⟩ := hI
  simp only at hy2 hy4 hol h1 h2 ⊢
  subst hy2; subst hy4
  have hsz : ∀ a b : Nat, pTrim (a0.extract a b) := fun a b => by
    unfold pTrim sm
    have := bs_len (a0.extract a b)
    rw [bs_extract, List.length_take, List.length_drop] at this
    omega
  have d0 : (0 : Int) ≤ (i : Int) := by omega
  have f0 : (0 : Int) ≤ (f : Int) := by omega
  have hcap : ∀ p : S, (out.length + [p].length) * 16 ≤ 140737488355328 := fun p => by simp only [List.length_singleton]; omega
  have hw : IntKind.i64.wrap ((i : Int) + 1) = ((i + 1 : Nat) : Int) := wrapS (by omega)
  have hw2 : IntKind.i64.wrap (((i + 1 : Nat) : Int) + 1) = ((i + 2 : Nat) : Int) := wrapS (by omega)
  by_cases hgt : i = a0.size + 1
  · obtain ⟨ha, hb⟩ := h2 hgt
    refine ⟨fun hle => by omega, fun _ => ⟨fun hf => ⟨fun hq => ⟨f0, by omega, hsz _ _, fun hp => ⟨hcap _, ?_⟩, fun hp => ?_⟩, fun hq => absurd (ha (by omega)).1 hq⟩, fun hf => hb (by omega)⟩⟩
    · have e := (ha (by omega)).2
      rw [Int.toNat_natCast] at hp ⊢
      rw [ext_seg, List.take_of_length_le (by omega)] at hp ⊢
      rw [trimmed_cons, trimmed_nil, if_pos hp] at e
      exact e
    · have e := (ha (by omega)).2
      rw [Int.toNat_natCast] at hp
      rw [ext_seg, List.take_of_length_le (by omega)] at hp
      rw [trimmed_cons, trimmed_nil, if_neg hp] at e
      simpa using e
  · obtain ⟨hfi, e⟩ := h1 (by omega)
    have d1 : (i : Int) ≤ (a0.size : Int) := by omega
    have hm : (if (a0.size : Int) < (i : Int) then (a0.size : Int) else (i : Int)) = (i : Int) := if_neg (by omega)
    have hfi' : (f : Int) ≤ (i : Int) := by omega
    by_cases hlt : i < a0.size
    · have d2 : (i : Int) < (a0.size : Int) := by omega
      have d3 : ¬ (a0.size : Int) ≤ (i : Int) := by omega
      have hi3 : i < (bs a0).length := by omega
      have hc := drop_cons' hi3
      have hs := seg_succ (l := bs a0) (f := f) (i := i) hfi hi3
      have b34 : bt a0 (i : Int) = 34 ↔ _ := byte_eq hlt 34 (by omega)
      have b92 : bt a0 (i : Int) = 92 ↔ _ := byte_eq hlt 92 (by omega)
      have b44 : bt a0 (i : Int) = 44 ↔ _ := byte_eq hlt 44 (by omega)
      have next : ∀ (out' : List S) (f' : Nat) (q' : Bool), out'.length ≤ i + 1 → f' ≤ i + 1 → out' ++ trimmed (partsL q' (((bs a0).take (i + 1)).drop f') ((bs a0).drop (i + 1))) = mSplitList a0 → L (out', (f' : Int), q', ((i + 1 : Nat) : Int)) := fun out' f' q' hlen hf' e' =>
        ih _ ⟨f', i + 1, rfl, rfl, by omega, hlen, fun _ => ⟨hf', e'⟩, fun hh => by omega⟩ (by simp only [Int.toNat_natCast]; omega)
      have hne1 : ((34 : Int) = 92) = False := by decide
      have hne2 : ((34 : Int) = 44) = False := by decide
      have hne3 : ((44 : Int) = 92) = False := by decide
      have hne4 : ((44 : Int) = 34) = False := by decide
      have hne5 : ((92 : Int) = 34) = False := by decide
      have hne6 : ((92 : Int) = 44) = False := by decide
      have piece : out ++ trimmed (partsL q (((bs a0).take i).drop f) ((bs a0).drop i)) = mSplitList a0 := e
      by_cases c34 : bt a0 (i : Int) = 34
      · have e34 := b34.1 c34
        cases q with
        | false =>
          rw [hc] at e
          simp only [d1, d2, d3, d0, hm, hw, hw2, c34, hne1, hne2, Bool.false_eq_true, not_false_eq_true, not_true_eq_false, true_implies, false_implies, true_and, and_true, decide_true, decide_false]
          rw [partsL_out, if_pos (by rw [e34]; rfl), ← hs] at e
          exact next out f true (by omega) (by omega) e
        | true =>
          simp only [d1, d2, d3, d0, hm, hw, hw2, c34, hne1, hne2, not_false_eq_true, not_true_eq_false, true_implies, false_implies, true_and, and_true, decide_true, decide_false]
          rw [parts_q hfi hi3, if_pos (by rw [e34]; rfl)] at e
          exact next out f false (by omega) (by omega) e
      · have n34 : ¬ (bs a0)[i] = 34 := fun h => c34 (b34.2 (by rw [h]; rfl))
        cases q with
        | true =>
          rw [parts_q hfi hi3, if_neg n34] at e
          by_cases c92 : bt a0 (i : Int) = 92
          · have e92 := b92.1 c92
            simp only [d1, d2, d3, d0, hm, hw, hw2, c92, hne5, hne6, not_false_eq_true, not_true_eq_false, true_implies, false_implies, true_and, and_true, decide_true, decide_false]
            rw [if_pos (by rw [e92]; rfl)] at e
            refine ih (out, (f : Int), true, ((i + 2 : Nat) : Int)) ⟨f, i + 2, rfl, rfl, by omega, (by show out.length ≤ i + 2; omega), fun hle => ⟨by omega, ?_⟩, fun heq => ⟨fun _ => ⟨rfl, ?_⟩, fun hn => absurd (by omega) hn⟩⟩ (by simp only [Int.toNat_natCast]; omega)
            · rw [if_pos (by omega)] at e; exact e
            · rw [if_neg (by omega)] at e; exact e
          · have n92 : ¬ (bs a0)[i] = 92 := fun h => c92 (b92.2 (by rw [h]; rfl))
            rw [if_neg n92] at e
            by_cases c44 : bt a0 (i : Int) = 44
            · simp only [d1, d2, d3, d0, hm, hw, hw2, c44, hne3, hne4, not_false_eq_true, not_true_eq_false, true_implies, false_implies, true_and, and_true, decide_true, decide_false]
              exact next out f true (by omega) (by omega) e
            · simp only [d1, d2, d3, d0, hm, hw, hw2, c34, c92, c44, not_false_eq_true, not_true_eq_false, true_implies, false_implies, true_and, and_true, decide_true, decide_false]
              exact next out f true (by omega) (by omega) e
        | false =>
          rw [hc, partsL_out, if_neg n34] at e
          by_cases c44 : bt a0 (i : Int) = 44
          · have e44 := b44.1 c44
            rw [if_pos (by rw [e44]; rfl), trimmed_cons] at e
            simp only [d1, d2, d3, d0, f0, hfi', hm, hw, hw2, c44, hne3, hne4, hsz, hcap, Bool.false_eq_true, not_false_eq_true, not_true_eq_false, true_implies, false_implies, true_and, and_true, decide_true, decide_false, Int.toNat_natCast]
            have hn : ((bs a0).take (i + 1)).drop (i + 1) = [] := List.drop_eq_nil_of_le (by rw [List.length_take]; omega)
            refine ⟨fun hp => ?_, fun hp => ?_⟩
            · rw [ext_seg] at hp ⊢
              rw [if_pos hp] at e
              exact next _ (i + 1) false (by simp only [List.length_append, List.length_singleton]; omega) (by omega) (by rw [hn, List.append_assoc]; exact e)
            · rw [ext_seg] at hp
              rw [if_neg hp] at e
              exact next _ (i + 1) false (by omega) (by omega) (by rw [hn]; exact e)
          · have n44 : ¬ (bs a0)[i] = 44 := fun h => c44 (b44.2 (by rw [h]; rfl))
            rw [if_neg n44, ← hs] at e
            simp only [d1, d2, d3, d0, hm, hw, hw2, c34, c44, Bool.false_eq_true, not_false_eq_true, not_true_eq_false, true_implies, false_implies, true_and, and_true, decide_true, decide_false]
            exact next out f false (by omega) (by omega) e
    · have hie : i = a0.size := by omega
      subst hie
      have hn : (bs a0).drop a0.size = [] := List.drop_eq_nil_of_le (by omega)
      rw [hn, partsL_end, trimmed_cons, trimmed_nil] at e
      have d2 : ¬ (a0.size : Int) < (a0.size : Int) := by omega
      have d3 : (a0.size : Int) ≤ (a0.size : Int) := by omega
      simp only [d1, d2, d3, d0, f0, hfi', hm, hw, hsz, hcap, not_false_eq_true, not_true_eq_false, true_implies, false_implies, true_and, and_true, Int.toNat_natCast, if_false]
      have fin : ∀ out' : List S, out'.length ≤ a0.size + 1 → out' = mSplitList a0 → L (out', ((a0.size + 1 : Nat) : Int), q, ((a0.size + 1 : Nat) : Int)) := fun out' hlen e' =>
        ih _ ⟨a0.size + 1, a0.size + 1, rfl, rfl, by omega, hlen, fun hh => by omega, fun _ => ⟨fun hh => by omega, fun _ => e'⟩⟩ (by simp only [Int.toNat_natCast]; omega)
      refine ⟨fun hp => ?_, fun hp => ?_⟩
      · rw [ext_seg] at hp ⊢
        rw [if_pos hp] at e
        exact fin _ (by simp only [List.length_append, List.length_singleton]; omega) e
      · rw [ext_seg] at hp
        rw [if_neg hp] at e
        exact fin _ (by omega) (by simpa using e)
end Go.Ev
end

section
/- Laws of the plain library: directives. -/
set_option linter.unusedVariables false
namespace Go.Ev
theorem index_first {l : List UInt8} {c : UInt8} {k : Nat} (hk : l[k]? = some c) (hf : ∀ j, j < k → l[j]? ≠ some c) : Lib.indexByte l c = (k : Int) := by
  have hge := Lib.indexByte_ge l c
  by_cases hn : Lib.indexByte l c = -1
  · exact absurd hk (Lib.indexByte_none hn k)
  · obtain ⟨o, ho⟩ : ∃ o : Nat, Lib.indexByte l c = (o : Int) := ⟨(Lib.indexByte l c).toNat, by omega⟩
    obtain ⟨h1, h2⟩ := Lib.indexByte_some ho
    rcases Nat.lt_trichotomy o k with h | h | h
    · exact absurd h1 (hf o h)
    · rw [ho, h]
    · exact absurd hk (h2 k h)
theorem index_not {l : List UInt8} {c : UInt8} (hf : ∀ j, j < l.length → l[j]? ≠ some c) : Lib.indexByte l c = -1 := by
  have hge := Lib.indexByte_ge l c
  by_cases hn : Lib.indexByte l c = -1
  · exact hn
  · obtain ⟨o, ho⟩ : ∃ o : Nat, Lib.indexByte l c = (o : Int) := ⟨(Lib.indexByte l c).toNat, by omega⟩
    obtain ⟨h1, h2⟩ := Lib.indexByte_some ho
    exact absurd h1 (hf o (List.getElem?_eq_some_iff.1 h1).1)
theorem cut_at {p : S} {k : Nat} (hk : k < p.size) (hb : bt p (k : Int) = 61) (hf : ∀ j, j < k → bt p (j : Int) ≠ 61) : (mCut p (lit [61])).1 = p.extract 0 k ∧ (mCut p (lit [61])).2.1 = p.extract (k + 1) p.size := by
  have hl := bs_len p
  have e : Lib.index (bs p) (bs (lit [61])) = (k : Int) := by
    rw [show bs (lit [61]) = [61] from rfl, Lib.index_one]
    refine index_first ?_ fun j hj hh => ?_
    · rw [List.getElem?_eq_getElem (by omega), (byte_eq hk 61 (by omega)).1 hb]; rfl
    · rw [List.getElem?_eq_getElem (by omega)] at hh
      exact hf j hj ((byte_eq (by omega) 61 (by omega)).2 (Option.some.inj hh))
  unfold mCut Lib.cut
  rw [e, if_pos (by omega)]
  refine ⟨bs_inj ?_, bs_inj ?_⟩
  · rw [bs_ob, bs_extract]; simp
  · rw [bs_ob, bs_extract]
    show (bs p).drop ((k : Int).toNat + 1) = _
    rw [Int.toNat_natCast]
    exact (List.take_of_length_le (by rw [List.length_drop]; omega)).symm
theorem cut_none {p : S} (hf : ∀ j, j < p.size → bt p (j : Int) ≠ 61) : (mCut p (lit [61])).1 = p.extract 0 p.size ∧ (mCut p (lit [61])).2.1 = lit [] := by
  have hl := bs_len p
  have e : Lib.index (bs p) (bs (lit [61])) = -1 := by
    rw [show bs (lit [61]) = [61] from rfl, Lib.index_one]
    refine index_not fun j hj hh => ?_
    rw [List.getElem?_eq_getElem hj] at hh
    exact hf j (by omega) ((byte_eq (by omega) 61 (by omega)).2 (Option.some.inj hh))
  unfold mCut Lib.cut
  rw [e, if_neg (by omega)]
  refine ⟨bs_inj ?_, rfl⟩
  rw [bs_ob, bs_extract, List.drop_zero, List.take_of_length_le (by omega)]
theorem cut_sizes (p : S) : (mCut p (lit [61])).1.size ≤ p.size ∧ (mCut p (lit [61])).2.1.size ≤ p.size := by
  have hl := bs_len p
  unfold mCut Lib.cut
  split
  · simp only [ob_size, List.length_take, List.length_drop]; omega
  · simp only [ob_size, List.length_nil]; omega
theorem extract_size (p : S) (a b : Nat) : (p.extract a b).size ≤ p.size := by
  have := bs_len (p.extract a b)
  have hl := bs_len p
  rw [bs_extract, List.length_take, List.length_drop] at this
  omega
/-- What is gathered from parts. -/
theorem gather {parts : List S} (hn : parts.length ≤ 1073741824) {B L : List Fld × Int → Prop} (hL : ∀ y, B y → L y)
    (step : ∀ (out : List Fld) (i : Nat) (hi : i < parts.length), out.length ≤ i → (dirOf parts[i] = none → L (out, IntKind.i64.wrap ((i : Int) + 1))) → (∀ d, dirOf parts[i] = some d → L (out ++ [d], IntKind.i64.wrap ((i : Int) + 1))) → B (out, (i : Int)))
    (fin : B (parts.filterMap dirOf, (parts.length : Int))) : L ([], 0) := by
  refine loopG hL parts.length (fun i y => y.2 = (i : Int) ∧ y.1.length ≤ i ∧ y.1 ++ (parts.drop i).filterMap dirOf = parts.filterMap dirOf) (fun i y hi hI ih => ?_) ⟨rfl, by simp, rfl⟩
  obtain ⟨out, y2⟩ := y
  obtain ⟨h1, h2, h3⟩ := hI
  simp only at h1 h2 h3
  subst h1
  by_cases hlt : i < parts.length
  · have hw : IntKind.i64.wrap ((i : Int) + 1) = ((i + 1 : Nat) : Int) := wrapS (by omega)
    rw [drop_cons' hlt] at h3
    refine step out i hlt h2 (fun hd => ?_) (fun d hd => ?_)
    · rw [List.filterMap_cons_none hd] at h3
      exact ih _ hlt ⟨hw, by simp only; omega, h3⟩
    · rw [List.filterMap_cons_some hd] at h3
      exact ih _ hlt ⟨hw, by simp only [List.length_append, List.length_singleton]; omega, by simp only [List.append_assoc]; exact h3⟩
  · have hie : i = parts.length := by omega
    subst hie
    rw [List.drop_eq_nil_of_le (Nat.le_refl _)] at h3
    have h3 : out = parts.filterMap dirOf := by simpa using h3
    rw [h3]; exact fin
theorem unq_pos {b : S} (h1 : 2 ≤ (b.size : Int)) (h2 : bt b 0 = 34) (h3 : bt b ((b.size : Int) - 1) = 34) : b.extract 1 (b.size - 1) = mL7Unquote b := by
  unfold mL7Unquote; rw [if_pos ⟨h1, h2, h3⟩]
theorem unq_neg {b : S} (h : ¬ (2 ≤ (b.size : Int) ∧ bt b 0 = 34 ∧ bt b ((b.size : Int) - 1) = 34)) : b = mL7Unquote b := by
  unfold mL7Unquote; rw [if_neg h]
theorem impl_Directives_ok (a0 : List Fld) (h : pDirectives a0) : s_impl_Directives a0 (fun r => r = mDirectives a0) := by
  have hg := fieldGet_size a0 nameCC h
  refine ⟨h, by unfold pSplitList sm; exact Nat.le_trans hg (by omega), ?_⟩
  have hb := splitList_bound (mFieldGet a0 nameCC).1
  have hm : ∀ x ∈ mSplitList (mFieldGet a0 nameCC).1, x.size ≤ 3 * 1048576 := fun x hx => Nat.le_trans (splitList_mem hx) hg
  have ht : (mSplitList (mFieldGet a0 nameCC).1).filterMap dirOf = mDirectives a0 := rfl
  intro L hL
  have hlen : (mSplitList (mFieldGet a0 nameCC).1).length ≤ 1073741824 := by omega
  refine gather (parts := mSplitList (mFieldGet a0 nameCC).1) hlen hL (fun out i hi hol hnone hsome => ?_) ?_
  · unfold nameCC at *
    generalize mSplitList (mFieldGet a0 (lit [99, 97, 99, 104, 101, 45, 99, 111, 110, 116, 114, 111, 108])).1 = parts at *
    have hp := hm parts[i] (List.getElem_mem hi)
    have hc := cut_sizes parts[i]
    simp only [rx_nat parts i hi]
    unfold dirOf at hnone hsome
    generalize (mCut parts[i] (lit [61])).1 = a at *
    generalize (mCut parts[i] (lit [61])).2.1 = b at *
    refine ⟨fun _ => ⟨by omega, by omega, by unfold pCut sm; omega, by unfold pIsTokenText sm; omega, fun ct => hnone (if_neg ct), fun ct => ?_⟩, fun hn => absurd (by omega) hn⟩
    have hsome := hsome _ (if_pos (Classical.not_not.1 ct))
    have hcap : ∀ d : Fld, (out.length + [d].length) * 32 ≤ 140737488355328 := fun d => by simp only [List.length_singleton]; omega
    have hlow : pLower a := by unfold pLower sm; omega
    refine ⟨fun h2 => ?_, fun h2 => ⟨hlow, hcap _, by rw [← unq_neg (fun hh => h2 hh.1)] at hsome; exact hsome⟩⟩
    have hw : IntKind.i64.wrap ((b.size : Int) - 1) = (b.size : Int) - 1 := wrap64 (by omega) (by omega)
    rw [hw]
    refine ⟨by omega, by omega, fun h3 => ⟨by omega, by omega, fun h4 => ⟨by omega, by omega, by omega, hlow, hcap _, ?_⟩, fun h4 => ⟨hlow, hcap _, ?_⟩⟩, fun h3 => ⟨hlow, hcap _, ?_⟩⟩
    · rw [← unq_pos h2 h3 h4] at hsome
      rw [show ((b.size : Int) - 1).toNat = b.size - 1 by omega]
      exact hsome
    · rw [← unq_neg (fun hh => h4 hh.2.2)] at hsome; exact hsome
    · rw [← unq_neg (fun hh => h3 hh.2.1)] at hsome; exact hsome
  · exact ⟨fun hh => absurd hh (by unfold nameCC; omega), fun _ => ht⟩
theorem spec_Directives_ok (a0 : List Fld) (h : pDirectives a0) : s_spec_Directives a0 (fun r => r = mDirectives a0) := by
  have hg := fieldGet_size a0 nameCC h
  refine ⟨h, by unfold pSplitList sm; exact Nat.le_trans hg (by omega), ?_⟩
  have hb := splitList_bound (mFieldGet a0 nameCC).1
  have hm : ∀ x ∈ mSplitList (mFieldGet a0 nameCC).1, x.size ≤ 3 * 1048576 := fun x hx => Nat.le_trans (splitList_mem hx) hg
  have ht : (mSplitList (mFieldGet a0 nameCC).1).filterMap dirOf = mDirectives a0 := rfl
  intro L hL
  have hlen : (mSplitList (mFieldGet a0 nameCC).1).length ≤ 1073741824 := by omega
  refine gather (parts := mSplitList (mFieldGet a0 nameCC).1) hlen hL (fun out i hi hol hnone hsome => ?_) ?_
  · unfold nameCC at *
    generalize mSplitList (mFieldGet a0 (lit [99, 97, 99, 104, 101, 45, 99, 111, 110, 116, 114, 111, 108])).1 = parts at *
    have hp := hm parts[i] (List.getElem_mem hi)
    simp only [rx_nat parts i hi]
    unfold dirOf at hnone hsome
    generalize parts[i] = p at *
    refine ⟨fun _ => ⟨by omega, by omega, fun L2 hL2 => ?_⟩, fun hn => absurd (by omega) hn⟩
    have hcap : ∀ d : Fld, (out.length + [d].length) * 32 ≤ 140737488355328 := fun d => by simp only [List.length_singleton]; omega
    have tok : ∀ a b, pIsTokenText (p.extract a b) := fun a b => by have := extract_size p a b; unfold pIsTokenText sm; omega
    have low : ∀ a b, pLower (p.extract a b) := fun a b => by have := extract_size p a b; unfold pLower sm; omega
    have unq : ∀ a b, pL7Unquote (p.extract a b) := fun a b => by have := extract_size p a b; unfold pL7Unquote sm; omega
    refine loopN hL2 p.size (by omega) (fun k => ∀ j, j < k → bt p (j : Int) ≠ 61) (fun k hk hI ih => ?_) (fun j hj => by omega)
    have hwk : k < p.size → IntKind.i64.wrap ((k : Int) + 1) = ((k + 1 : Nat) : Int) := fun _ => wrapS (by omega)
    refine ⟨fun hlt => ?_, fun hge => ?_⟩
    · have hlt : k < p.size := by omega
      refine ⟨by omega, by omega, fun h61 => ih hlt fun j hj => ?_, fun h61 => ?_⟩
      · by_cases e : j = k
        · subst e; exact h61
        · exact hI j (by omega)
      · obtain ⟨e1, e2⟩ := cut_at hlt (Classical.not_not.1 h61) hI
        rw [e1] at hnone hsome
        rw [e2] at hsome
        rw [hwk hlt, Int.toNat_natCast, Int.toNat_natCast]
        refine ⟨by omega, by omega, tok _ _, fun ct => hnone (if_neg ct), fun ct => ⟨by omega, by omega, low _ _, fun _ => ⟨by omega, by omega, unq _ _, hcap _, hsome _ (if_pos (Classical.not_not.1 ct))⟩, fun hh => absurd (by omega) hh⟩⟩
    · have hke : k = p.size := by omega
      subst hke
      obtain ⟨e1, e2⟩ := cut_none hI
      rw [e1] at hnone hsome
      rw [e2] at hsome
      have hu : mL7Unquote (lit []) = lit [] := (unq_neg (fun hh => by have := hh.1; have h0 : (lit []).size = 0 := rfl; omega)).symm
      rw [hu] at hsome
      rw [Int.toNat_natCast]
      refine ⟨by omega, by omega, tok _ _, fun ct => hnone (if_neg ct), fun ct => ⟨by omega, by omega, low _ _, fun hh => absurd hh (by omega), fun _ => ⟨hcap _, hsome _ (if_pos (Classical.not_not.1 ct))⟩⟩⟩
  · exact ⟨fun hh => absurd hh (by unfold nameCC; omega), fun _ => ht⟩
end Go.Ev
end

section
/- Laws of the plain library: what may be stored, what may be shared. -/
set_option linter.unusedVariables false
namespace Go.Ev
theorem md_req' {q : Req} (h : md q) : md q.2.2.1 := by
  unfold md at h ⊢; simp only [cz_pair] at h; omega
theorem md_rsp' {r : Rsp} (h : md r) : md r.2.1 := by
  unfold md at h ⊢; simp only [cz_pair] at h; omega
theorem impl_itsOwn_ok (a0 : Req) (h : pItsOwn a0) : s_impl_itsOwn a0 (fun r => r = mItsOwn a0) := by
  have h : md a0.2.2.1 := h
  unfold s_impl_itsOwn mItsOwn sGET sAuth sNone sSince sNoStore sNoCache
  simp only [pHasField, pCcHas, h, true_and]
  (repeat' first | apply And.intro | intro _) <;> simp_all
theorem spec_l16Own_ok (a0 : Req) (h : pItsOwn a0) : s_spec_l16Own a0 (fun r => r = mItsOwn a0) := by
  have h : md a0.2.2.1 := h
  unfold s_spec_l16Own mItsOwn mHasField sGET sAuth sNone sSince sNoStore sNoCache
  simp only [pFieldGet, pCcHas, h, true_and]
  (repeat' first | apply And.intro | intro _) <;> simp_all
theorem impl_MayShare_ok (a0 : Req) (a1 : Flt) (a2 : Int) (h : pMayShare a0 a1 a2) : s_impl_MayShare a0 a1 a2 (fun r => r = mMayShare a0 a1 a2) := by
  obtain ⟨h0, h1⟩ := h
  have q0 := md_req' h0
  have h1' : cz a1 ≤ 1048576 := h1
  simp only [cz_pair] at h1'
  have p1 : pPicked (fltReq a1) (fltRsp a1) := by unfold pPicked md fltReq fltRsp; simp only; omega
  have p2 : pVaryFits a0 (fltRsp a1) (mPicked (fltReq a1) (fltRsp a1)) := by
    refine ⟨q0, ?_⟩
    unfold md fltRsp; simp only; omega
  have p3 : pItsOwn a0 := q0
  refine ⟨fun c1 => ⟨fun c2 => ⟨fun c3 => ⟨p1, p2, fun c4 => ⟨p3, ?_⟩, fun c4 => ?_⟩, fun c3 => ?_⟩, fun c2 => ?_⟩, fun c1 => ?_⟩
  · unfold mMayShare
    rw [Bool.not_eq_true] at c1
    rw [c1, c2, c3, show mVaryFits a0 (fltRsp a1) (mPicked (fltReq a1) (fltRsp a1)) = true from c4]
    cases mItsOwn a0 <;> rfl
  · unfold mMayShare
    rw [show mVaryFits a0 (fltRsp a1) (mPicked (fltReq a1) (fltRsp a1)) = false from (Bool.not_eq_true _).mp c4]
    simp
  · unfold mMayShare; rw [Bool.not_eq_true] at c3; rw [c3]; simp
  · unfold mMayShare; rw [Bool.not_eq_true] at c2; rw [c2]; simp
  · unfold mMayShare; rw [Classical.not_not.1 c1]; simp
theorem spec_MayShare_ok (a0 : Req) (a1 : Flt) (a2 : Int) (h : pMayShare a0 a1 a2) : s_spec_MayShare a0 a1 a2 (fun r => r = mMayShare a0 a1 a2) := impl_MayShare_ok a0 a1 a2 h
theorem storable_pre {r : Rsp} (h : md r) : md r.2.1 ∧ pFieldGet r.2.1 (lit [118, 97, 114, 121]) ∧ pSplitList (mFieldGet r.2.1 (lit [118, 97, 114, 121])).1 ∧ pContains_string (mSplitList (mFieldGet r.2.1 (lit [118, 97, 114, 121])).1) (lit [42]) := by
  have hr := md_rsp' h
  have hg := fieldGet_size r.2.1 (lit [118, 97, 114, 121]) hr
  have hb := splitList_bound (mFieldGet r.2.1 (lit [118, 97, 114, 121])).1
  exact ⟨hr, hr, by unfold pSplitList sm; omega, by unfold pContains_string; simp only [maxLen]; omega⟩
theorem impl_Storable_ok (a0 : Req) (a1 : Rsp) (h : pStorable a0 a1) : s_impl_Storable a0 a1 (fun r => r = mStorable a0 a1) := by
  obtain ⟨h0, h1⟩ := h
  have hq := md_req' h0
  obtain ⟨hr, p1, p2, p3⟩ := storable_pre h1
  have p4 : pResponseOk a1 := hr
  unfold s_impl_Storable mStorable sGET sNoStore sPrivate sVary sAuth sPublic sSMaxAge sMust sMaxAge sExpires
  simp only [pStorable_1, pCcHas, pHasField, pHeuristic, hq, hr, p1, p2, p3, p4, true_and, mStorable_1]
  generalize mContains_string (mSplitList (mFieldGet a1.2.1 (lit [118, 97, 114, 121])).1) (lit [42]) = b1
  generalize mCcHas a0.2.2.1 (lit [110, 111, 45, 115, 116, 111, 114, 101]) = b2
  generalize mCcHas a1.2.1 (lit [110, 111, 45, 115, 116, 111, 114, 101]) = b3
  generalize mCcHas a1.2.1 (lit [112, 114, 105, 118, 97, 116, 101]) = b4
  generalize mHasField a0.2.2.1 (lit [97, 117, 116, 104, 111, 114, 105, 122, 97, 116, 105, 111, 110]) = b5
  generalize mCcHas a1.2.1 (lit [112, 117, 98, 108, 105, 99]) = b6
  generalize mCcHas a1.2.1 (lit [115, 45, 109, 97, 120, 97, 103, 101]) = b7
  generalize mCcHas a1.2.1 (lit [109, 117, 115, 116, 45, 114, 101, 118, 97, 108, 105, 100, 97, 116, 101]) = b8
  generalize mCcHas a1.2.1 (lit [109, 97, 120, 45, 97, 103, 101]) = b9
  generalize mHasField a1.2.1 (lit [101, 120, 112, 105, 114, 101, 115]) = b10
  generalize mHeuristic a1.1 = b11
  generalize mResponseOk a1 = b12
  (repeat' first | apply And.intro | intro _) <;> simp_all
theorem spec_Storable_ok (a0 : Req) (a1 : Rsp) (h : pStorable a0 a1) : s_spec_Storable a0 a1 (fun r => r = mStorable a0 a1) := by
  obtain ⟨h0, h1⟩ := h
  have hq := md_req' h0
  obtain ⟨hr, p1, p2, p3⟩ := storable_pre h1
  have p4 : pResponseOk a1 := hr
  have hlen : (mSplitList (mFieldGet a1.2.1 (lit [118, 97, 114, 121])).1).length ≤ maxLen := p3
  refine ⟨fun c => ?_, fun c0 => ⟨fun c => ?_, fun c1 => ⟨p4, fun c => ?_, fun c2 => ⟨hq, fun c => ?_, fun c3 => ⟨hr, fun c => ?_, fun c4 => ⟨hr, fun c => ?_, fun c5 => ⟨hr, p2,
    scanT_ok (xs := mSplitList (mFieldGet a1.2.1 (lit [118, 97, 114, 121])).1) (C := fun x => x = lit [42]) (Qh := fun _ => false = mStorable a0 a1) hlen (fun i hi hc _ => ?_) (fun hx => ?_)⟩⟩⟩⟩⟩⟩⟩
  · simp [mStorable, sGET, c]
  · simp [mStorable, c]
  · rw [Bool.not_eq_true] at c; simp [mStorable, c]
  · simp [mStorable, sNoStore, c]
  · simp [mStorable, sNoStore, c]
  · simp [mStorable, sPrivate, c]
  · have hb : mContains_string (mSplitList (mFieldGet a1.2.1 (lit [118, 97, 114, 121])).1) (lit [42]) = true := any_true hi (by rw [hc]; simp)
    simp [mStorable, sVary, hb]
  · have hb : mContains_string (mSplitList (mFieldGet a1.2.1 (lit [118, 97, 114, 121])).1) (lit [42]) = false := List.any_eq_false.2 fun x hm => by have := hx x hm; simpa using fun e => this e.symm
    have c2' := Classical.not_not.1 c2
    have c0' := Classical.not_not.1 c0
    rw [Bool.not_eq_true] at c3 c4 c5
    unfold mStorable mHasField sGET sNoStore sPrivate sVary sAuth sPublic sSMaxAge sMust sMaxAge sExpires
    rw [hb, c2', c3, c4, c5, decide_eq_true c0', decide_eq_false c1]
    simp only [pFieldGet, pCcHas, pHeuristic, hq, hr, true_and]
    generalize (mFieldGet a0.2.2.1 (lit [97, 117, 116, 104, 111, 114, 105, 122, 97, 116, 105, 111, 110])).2 = b5
    generalize mCcHas a1.2.1 (lit [112, 117, 98, 108, 105, 99]) = b6
    generalize mCcHas a1.2.1 (lit [115, 45, 109, 97, 120, 97, 103, 101]) = b7
    generalize mCcHas a1.2.1 (lit [109, 117, 115, 116, 45, 114, 101, 118, 97, 108, 105, 100, 97, 116, 101]) = b8
    generalize mCcHas a1.2.1 (lit [109, 97, 120, 45, 97, 103, 101]) = b9
    generalize (mFieldGet a1.2.1 (lit [101, 120, 112, 105, 114, 101, 115])).2 = b10
    generalize mHeuristic a1.1 = b11
    clear hx hb
    (repeat' first | apply And.intro | intro _) <;> simp_all
end Go.Ev
end

section
/- impl.Lower: what its walk needs. -/
set_option linter.unusedVariables false
namespace Go.Ev
open Go Go.RowKit
/-- The row behind i steps. -/
def lowAt (s : S) (i : Nat) : List UInt8 := ((bs s).take i).map lowB ++ (bs s).drop i
theorem lowAt_len (s : S) (i : Nat) : (lowAt s i).length = s.size := by
  unfold lowAt
  rw [List.length_append, List.length_map, List.length_take, List.length_drop, bs_len]; omega
theorem lowAt_get (s : S) (i j : Nat) (h : j < s.size) : (lowAt s i)[j]? = some (if j < i then lowB (bs s)[j]! else (bs s)[j]!) := by
  have hl : j < (bs s).length := by rw [bs_len]; exact h
  unfold lowAt
  by_cases hj : j < i
  · rw [if_pos hj, List.getElem?_append_left (by simp; omega), List.getElem?_map, List.getElem?_take, if_pos hj, List.getElem?_eq_getElem hl, getElem!_pos (bs s) j hl]; rfl
  · rw [if_neg hj, List.getElem?_append_right (by simp; omega), List.getElem?_drop, List.length_map, List.length_take, show i + (j - min i (bs s).length) = j by omega, List.getElem?_eq_getElem hl, getElem!_pos (bs s) j hl]
/-- What the block holds, in a world. -/
def LowW (B : Nat) (s : S) (i : Nat) (w w' : World) : Prop :=
  Below B w w' ∧ ∀ j, j < s.size → w'.cell? ⟨B, j, none⟩ = some (.int .u8 (((if j < i then lowB (bs s)[j]! else (bs s)[j]!).toNat : Nat) : Int)) ∧ w'.frozen? ⟨B, j, none⟩ = false
theorem LowW.next {B i : Nat} {s : S} {w w' : World} (h : LowW B s i w w') (hi : i < s.size) {v : Int} (hv : v = ((lowB (bs s)[i]!).toNat : Int)) : LowW B s (i + 1) w (w'.setCell ⟨B, i, none⟩ (.int .u8 v)) := by
  refine ⟨h.1.setCell (Nat.le_refl _) _, fun j hj => ?_⟩
  by_cases e : j = i
  · subst e
    rw [World.cell?_setCell_same _ _ _ (h.2 j hj).1, hv, if_pos (by omega)]
    exact ⟨rfl, by rw [World.frozen?_setCell]; exact (h.2 j hj).2⟩
  · rw [World.cell?_setCell_other _ _ _ _ (by simp [e]), World.frozen?_setCell, (h.2 j hj).1]
    exact ⟨by simp only [show (j < i + 1) ↔ (j < i) by omega], (h.2 j hj).2⟩
theorem LowW.skip {B i : Nat} {s : S} {w w' : World} (h : LowW B s i w w') (hi : i < s.size) (hv : lowB (bs s)[i]! = (bs s)[i]!) : LowW B s (i + 1) w w' := by
  refine ⟨h.1, fun j hj => ?_⟩
  by_cases e : j = i
  · subst e
    have := h.2 j hj
    rw [if_neg (by omega)] at this
    rw [if_pos (by omega), hv]; exact this
  · rw [(h.2 j hj).1]
    exact ⟨by simp only [show (j < i + 1) ↔ (j < i) by omega], (h.2 j hj).2⟩
/-- '[]byte(s)'. -/
theorem low_new (P : Program) (src dst e : TypeId) (w : World) (s : S) (hs : P.underlying src = some .string) (hd : P.underlying dst = some (.slice e)) (he : P.underlying e = some (.int .u8)) :
    ∃ W1 cap, (convert src dst (.string s)).run P w = .ok (.slice (some ⟨w.heap.size, 0, none⟩) s.size cap) W1 ∧ LowW w.heap.size s 0 w W1 := by
  refine ⟨_, _, run_bytes_of_string w src dst e s hs hd he, (Below.refl _ _).drew.alloc (Nat.le_refl _) _, fun j hj => ?_⟩
  have h1 := bytesRow_at s (grownCap w s.size 0 e) j hj
  refine ⟨?_, ?_⟩
  · show (w.drew.alloc _).cell? ⟨w.drew.heap.size, j, none⟩ = _
    rw [World.cell?_alloc_mark, h1, if_neg (by omega)]
    have hl : j < (bs s).length := by rw [bs_len]; exact hj
    rw [getElem!_pos (bs s) j hl]; rfl
  · show (w.drew.alloc _).frozen? ⟨w.drew.heap.size, j, none⟩ = _
    rw [World.frozen?_alloc_mark]
    have hsz : s.size ≤ (bytesRow s (grownCap w s.size 0 e)).size := by simp [bytesRow]
    generalize (bytesRow s (grownCap w s.size 0 e)).size = n at hsz
    simp; omega
theorem low_byte (x : UInt8) : (65 ≤ x.toNat ∧ x.toNat ≤ 90 → IntKind.u8.wrap (IntKind.u8.wrap ((x.toNat : Int) + 97) - 65) = ((lowB x).toNat : Int)) ∧ (¬ (65 ≤ x.toNat ∧ x.toNat ≤ 90) → lowB x = x) := by
  refine ⟨fun h => ?_, fun h => by unfold lowB; rw [if_neg h]⟩
  unfold lowB; rw [if_pos h]
  have e : (x + 32).toNat = x.toNat + 32 := by rw [UInt8.toNat_add]; show (x.toNat + 32) % 256 = _; omega
  rw [e]
  have h1 : IntKind.u8.wrap ((x.toNat : Int) + 97) = (x.toNat : Int) + 97 := by rw [IntKind.wrap_u8]; omega
  rw [h1, IntKind.wrap_u8]; omega
theorem low_end (P : Program) (src dst e : TypeId) (B cap : Nat) (w w' : World) (s : S) (hs : P.underlying src = some (.slice e)) (he : P.underlying e = some (.int .u8)) (hd : P.underlying dst = some .string) (h : LowW B s s.size w w') :
    (convert src dst (.slice (some ⟨B, 0, none⟩) s.size cap)).run P w' = .ok (.string (mLower s)) w' := by
  have hl : ((bs s).map lowB).length = s.size := by rw [List.length_map, bs_len]
  have := run_convert_bytes_back (P := P) w' src dst e ⟨B, 0, none⟩ cap ((bs s).map lowB) hs he hd (fun j hj => by
    have hj' : j < s.size := by rw [hl] at hj; exact hj
    have hjb : j < (bs s).length := by rw [bs_len]; exact hj'
    have h1 := (h.2 j hj').1
    rw [if_pos hj', getElem!_pos (bs s) j hjb] at h1
    rw [show (⟨B, 0, none⟩ : Addr).add j = ⟨B, j, none⟩ by unfold Addr.add; split <;> simp_all]
    rw [h1, List.getElem_map])
  rw [hl] at this
  exact this
end Go.Ev
namespace Go.Ev
open Go.RowKit
def lowerCt (f : FuncId) : Ct := { f, ps := [.v false .ro [.str]], rs := [(false, [.str])], shared := false, pre := fun (x : S) => pLower x, F := fun (x : S) => mLower x }
theorem lower_ct {P : Program} {f : FuncId} {w : World} (hf : FnIs P f)
    (hI : ∀ s : ByteArray, s.size ≤ 1073741824 → Calls P f #[.string s] w fun e w' => e = .returned (.string (mLower s)) ∧ Below w.heap.size w w') : CtAt P (lowerCt f) w := by
  refine ct_lib hf fun vals x S hS ha hp => ?_
  obtain ⟨v, vs', hv, h1, h2⟩ := args_v ha
  have h2 := args_e h2
  subst h2
  have h1 : v = .string x := h1
  subst h1
  rw [arr_of hv]
  exact (hI x hp).mono fun e w' ⟨he, hb⟩ => ⟨[.string (mLower x)], _, he, hb, Or.inl rfl, fun S' => res_str _⟩
end Go.Ev
end

section
set_option linter.unusedVariables false
namespace Go.Proofs.YtmpoeecmjoklcaaDoor.ApW
open Go Go.Ev Go.Proofs Go.RowKit
abbrev ls3 : List L := [.int .i64]
abbrev ls4 : List L := [.bool]
abbrev ls9 : List L := [.str]
abbrev ls22 : List L := [.list 53 [.str, .str]]
abbrev ls24 : List L := [.int .i64, .list 53 [.str, .str], .str]
abbrev ls28 : List L := [.list 54 [.str, .str]]
abbrev ls30 : List L := [.int .i64, .list 54 [.str, .str], .str]
abbrev ls53 : List L := [.str, .str]
abbrev ls54 : List L := [.str, .str]
def tt : List (Nat × TI) := [
  (2, ⟨.sc, [.int .i64]⟩),
  (3, ⟨.sc, [.int .i64]⟩),
  (4, ⟨.sc, [.bool]⟩),
  (5, ⟨.sc, [.int .u8]⟩),
  (6, ⟨.sc, [.int .u8]⟩),
  (7, ⟨.st [(0, [.int .i64]), (1, [.int .i64]), (2, [.bool]), (3, [.int .u8])], [.int .i64, .int .i64, .bool, .int .u8]⟩),
  (8, ⟨.st [(0, [.int .i64]), (1, [.int .i64]), (2, [.bool]), (3, [.int .u8])], [.int .i64, .int .i64, .bool, .int .u8]⟩),
  (9, ⟨.sc, [.str]⟩),
  (10, ⟨.sc, [.str]⟩),
  (11, ⟨.sc, [.str]⟩),
  (12, ⟨.sc, [.int .u64]⟩),
  (13, ⟨.st [(0, [.str]), (1, [.int .u64])], [.str, .int .u64]⟩),
  (14, ⟨.st [(0, [.str]), (1, [.int .u64])], [.str, .int .u64]⟩),
  (21, ⟨.sc, [.int .i32]⟩),
  (22, ⟨.sl 53 [.str, .str] 32, [.list 53 [.str, .str]]⟩),
  (23, ⟨.st [(0, [.int .i64]), (1, [.list 53 [.str, .str]]), (2, [.str])], [.int .i64, .list 53 [.str, .str], .str]⟩),
  (24, ⟨.st [(0, [.int .i64]), (1, [.list 53 [.str, .str]]), (2, [.str])], [.int .i64, .list 53 [.str, .str], .str]⟩),
  (26, ⟨.sl 9 [.str] 16, [.list 9 [.str]]⟩),
  (28, ⟨.sl 54 [.str, .str] 32, [.list 54 [.str, .str]]⟩),
  (29, ⟨.st [(0, [.int .i64]), (1, [.list 54 [.str, .str]]), (2, [.str])], [.int .i64, .list 54 [.str, .str], .str]⟩),
  (30, ⟨.st [(0, [.int .i64]), (1, [.list 54 [.str, .str]]), (2, [.str])], [.int .i64, .list 54 [.str, .str], .str]⟩),
  (52, ⟨.st [(0, [.str]), (1, [.str])], [.str, .str]⟩),
  (53, ⟨.st [(0, [.str]), (1, [.str])], [.str, .str]⟩),
  (54, ⟨.st [(0, [.str]), (1, [.str])], [.str, .str]⟩),
  (55, ⟨.sl 5 [.int .u8] 1, [.list 5 [.int .u8]]⟩),
  (58, ⟨.sl 3 [.int .i64] 8, [.list 3 [.int .i64]]⟩),
  (89, ⟨.sc, [.int .u64]⟩),
  (97, ⟨.sc, [.int .u32]⟩),
  (100, ⟨.sc, [.int .u64]⟩),
  (103, ⟨.st [(0, [.int .u8]), (1, [.int .u8])], [.int .u8, .int .u8]⟩),
  (104, ⟨.st [(0, [.int .u8]), (1, [.int .u8])], [.int .u8, .int .u8]⟩),
  (118, ⟨.sc, [.int .u8]⟩),
  (119, ⟨.sc, [.int .u8]⟩),
  (121, ⟨.sc, [.int .i32]⟩),
  (122, ⟨.sc, [.int .i32]⟩)]
theorem ttOk : ttB Tryd.prog tt = true := by kernel_rfl
theorem mixOk : Tryd.prog.follows .mixedOrders = true := by kernel_rfl
def J (w : World) : Prop := Lib.TabIs Tryd.prog w "internal/strconv.uint64pow10" .u64 Lib.pow10Tab ∧ True
theorem J_below {w w' : World} (h : J w) (hb : Below w.heap.size w w') : J w' := ⟨tab_below h.1 hb, trivial⟩
def Jn (n : Nat) (w : World) : Prop := ∃ w0 : World, w0.heap.size = n ∧ J w0 ∧ Below n w0 w
theorem Jn_J {n : Nat} {w : World} (h : Jn n w) : J w := by
  obtain ⟨w0, rfl, h1, h2⟩ := h
  exact J_below h1 h2
theorem Jn_below {n : Nat} {w w' : World} (h : Jn n w) (hb : Below n w w') : Jn n w' := by
  obtain ⟨w0, h0, h1, h2⟩ := h
  exact ⟨w0, h0, h1, h2.trans hb⟩
theorem Jn_of {w w' : World} (h : J w) (hb : Below w.heap.size w w') : Jn w.heap.size w' := ⟨w, rfl, h, hb⟩
noncomputable def E35 : Env := { tt, eqs := [], cts := [] }
theorem ok35 : EnvOk Tryd.prog E35 := ⟨ttOk, by kernel_rfl, rfl, mixOk⟩
theorem cs35 (w0 : World) (hJ : J w0) : EnvCts Tryd.prog E35 w0 w0.heap.size := by
  refine ⟨fun c hc => ?_, fun c hc => ?_⟩
  · cases hc
  · cases hc
noncomputable def ct35 : Ct := { f := 35, ps := [.v true .ro ls53, .v false .ro [.int .i64]], rs := [(false, [.int .i64])], shared := false, pre := fun (q : Fld × Int) => pSz q.1 q.2, F := fun (q : Fld × Int) => szF q.1 q.2 }
def st35 : List (SzStep Fld) := [.str (fun x : Fld => x.1), .str (fun x : Fld => x.2)]
theorem c35 (x : Fld) : szSum x st35 = cz x := by
  simp only [szSum, st35, cz_pair, cz_int, cz_bool, cz_str]
  all_goals omega
theorem w35 (x : Fld) (h : wd x) : szFine x st35 := by
  first | simp only [wd_pair] at h | skip
  simp only [szFine, st35, wd_pair, wf_wd]
  simp only [h, and_self]
theorem law35 : ∀ q : Fld × Int, pSz q.1 q.2 → szSt q.1 st35 q.2 (fun r => r = szF q.1 q.2) := fun q hq => szSt_holds q.1 st35 q.2 _ (w35 q.1 hq.1) hq.2.1 hq.2.2 (c35 q.1)
theorem all35 (w : World) (hJ : J w) : CtAt Tryd.prog ct35 w :=
  ct_by ok35 (cs35 w hJ) Tryd.func35 (by kernel_rfl) (H := (hint [])) law35 (by kernel_rfl)
noncomputable def E17 : Env := { tt, eqs := [], cts := [ct35] }
theorem ok17 : EnvOk Tryd.prog E17 := ⟨ttOk, by kernel_rfl, rfl, mixOk⟩
theorem cs17 (w0 : World) (hJ : J w0) : EnvCts Tryd.prog E17 w0 w0.heap.size := by
  refine ⟨fun c hc => ?_, fun c hc => ?_⟩
  · rcases List.mem_cons.1 hc with rfl | hc
    · exact fun w hb => all35 w (J_below hJ hb)
    cases hc
  · cases hc
noncomputable def ct17 : Ct := { f := 17, ps := [.v false .ro ls22, .v false .ro [.int .i64]], rs := [(false, [.int .i64])], shared := false, pre := fun (q : (List Fld) × Int) => pSz q.1 q.2, F := fun (q : (List Fld) × Int) => szF q.1 q.2 }
theorem law17 : ∀ q : (List Fld) × Int, pSz q.1 q.2 → szS (α := Fld) Dft.dft (fun y k => pSz y k) (fun y k => szF y k) q.1 q.2 (fun r => r = szF q.1 q.2) := fun q hq => szS_holds (α := Fld) Dft.dft cz wd q.1 q.2 hq.1.1 hq.1.2 hq.2.1 hq.2.2
theorem all17 (w : World) (hJ : J w) : CtAt Tryd.prog ct17 w :=
  ct_by ok17 (cs17 w hJ) Tryd.func17 (by kernel_rfl) (H := (hint [(5, [.val 1 (.int .i64), .val 5 (.int .i64)])])) law17 (by kernel_rfl)
noncomputable def E5 : Env := { tt, eqs := [], cts := [ct17] }
theorem ok5 : EnvOk Tryd.prog E5 := ⟨ttOk, by kernel_rfl, rfl, mixOk⟩
theorem cs5 (w0 : World) (hJ : J w0) : EnvCts Tryd.prog E5 w0 w0.heap.size := by
  refine ⟨fun c hc => ?_, fun c hc => ?_⟩
  · rcases List.mem_cons.1 hc with rfl | hc
    · exact fun w hb => all17 w (J_below hJ hb)
    cases hc
  · cases hc
noncomputable def ct5 : Ct := { f := 5, ps := [.v true .ro ls24, .v false .ro [.int .i64]], rs := [(false, [.int .i64])], shared := false, pre := fun (q : Rsp × Int) => pSz q.1 q.2, F := fun (q : Rsp × Int) => szF q.1 q.2 }
def st5 : List (SzStep Rsp) := [.call (fun x : Rsp => wd (x.2.1 : (List Fld))) (fun x : Rsp => cz (x.2.1 : (List Fld))), .str (fun x : Rsp => x.2.2)]
theorem c5 (x : Rsp) : szSum x st5 = cz x := by
  simp only [szSum, st5, cz_pair, cz_int, cz_bool, cz_str]
  all_goals omega
theorem w5 (x : Rsp) (h : wd x) : szFine x st5 := by
  first | simp only [wd_pair] at h | skip
  simp only [szFine, st5, wd_pair, wf_wd]
  simp only [h, and_self]
theorem law5 : ∀ q : Rsp × Int, pSz q.1 q.2 → szSt q.1 st5 q.2 (fun r => r = szF q.1 q.2) := fun q hq => szSt_holds q.1 st5 q.2 _ (w5 q.1 hq.1) hq.2.1 hq.2.2 (c5 q.1)
theorem all5 (w : World) (hJ : J w) : CtAt Tryd.prog ct5 w :=
  ct_by ok5 (cs5 w hJ) Tryd.func5 (by kernel_rfl) (H := (hint [])) law5 (by kernel_rfl)
noncomputable def E37 : Env := { tt, eqs := [], cts := [] }
theorem ok37 : EnvOk Tryd.prog E37 := ⟨ttOk, by kernel_rfl, rfl, mixOk⟩
theorem cs37 (w0 : World) (hJ : J w0) : EnvCts Tryd.prog E37 w0 w0.heap.size := by
  refine ⟨fun c hc => ?_, fun c hc => ?_⟩
  · cases hc
  · cases hc
noncomputable def ct37 : Ct := { f := 37, ps := [.v true .ro ls53], rs := [(true, ls54)], shared := false, pre := fun (x : Fld) => pTo x, F := fun (x : Fld) => toF x }
theorem law37 : ∀ q : Fld, pTo q → conj [] (q = toF q) := fun q hq => rfl
theorem all37 (w : World) (hJ : J w) : CtAt Tryd.prog ct37 w :=
  ct_by ok37 (cs37 w hJ) Tryd.func37 (by kernel_rfl) (H := (hint [])) law37 (by kernel_rfl)
noncomputable def E21 : Env := { tt, eqs := [], cts := [ct37] }
theorem ok21 : EnvOk Tryd.prog E21 := ⟨ttOk, by kernel_rfl, rfl, mixOk⟩
theorem cs21 (w0 : World) (hJ : J w0) : EnvCts Tryd.prog E21 w0 w0.heap.size := by
  refine ⟨fun c hc => ?_, fun c hc => ?_⟩
  · rcases List.mem_cons.1 hc with rfl | hc
    · exact fun w hb => all37 w (J_below hJ hb)
    cases hc
  · cases hc
noncomputable def ct21 : Ct := { f := 21, ps := [.v false .ro ls22], rs := [(false, ls28)], shared := false, pre := fun (x : (List Fld)) => pTo x, F := fun (x : (List Fld)) => toF x }
theorem law21 : ∀ q : (List Fld), pTo q → toS (α := Fld) Dft.dft 32 (fun y => pTo y) q (fun r => r = toF q) := fun q hq => toS_holds (α := Fld) Dft.dft 32 (fun y => pTo y) q (md_len' hq) (by omega) (fun i a h => md_mem hq (List.mem_of_getElem? h)) rfl
theorem all21 (w : World) (hJ : J w) : CtAt Tryd.prog ct21 w :=
  ct_by ok21 (cs21 w hJ) Tryd.func21 (by kernel_rfl) (H := (hint [(3, [.reg 3 54 ls54 true, .val 4 (.int .i64)])])) law21 (by kernel_rfl)
noncomputable def E7 : Env := { tt, eqs := [], cts := [ct21] }
theorem ok7 : EnvOk Tryd.prog E7 := ⟨ttOk, by kernel_rfl, rfl, mixOk⟩
theorem cs7 (w0 : World) (hJ : J w0) : EnvCts Tryd.prog E7 w0 w0.heap.size := by
  refine ⟨fun c hc => ?_, fun c hc => ?_⟩
  · rcases List.mem_cons.1 hc with rfl | hc
    · exact fun w hb => all21 w (J_below hJ hb)
    cases hc
  · cases hc
noncomputable def ct7 : Ct := { f := 7, ps := [.v true .ro ls24], rs := [(true, ls30)], shared := false, pre := fun (x : Rsp) => pTo x, F := fun (x : Rsp) => toF x }
theorem law7 : ∀ q : Rsp, pTo q → conj [pTo (q.2.1 : (List Fld))] (q = toF q) := fun q hq => ⟨(czh (czt hq)), rfl⟩
theorem all7 (w : World) (hJ : J w) : CtAt Tryd.prog ct7 w :=
  ct_by ok7 (cs7 w hJ) Tryd.func7 (by kernel_rfl) (H := (hint [])) law7 (by kernel_rfl)
noncomputable def E30 : Env := { tt, eqs := [], cts := [] }
theorem ok30 : EnvOk Tryd.prog E30 := ⟨ttOk, by kernel_rfl, rfl, mixOk⟩
theorem cs30 (w0 : World) (hJ : J w0) : EnvCts Tryd.prog E30 w0 w0.heap.size := by
  refine ⟨fun c hc => ?_, fun c hc => ?_⟩
  · cases hc
  · cases hc
noncomputable def ct30 : Ct := { f := 30, ps := [.v false .ro ls3], rs := [(false, ls9)], shared := false, pre := fun (x : Int) => pDec x, F := fun (x : Int) => mDec x }
theorem law30 : ∀ x : Int, pDec x → s_spec_Dec x (fun r => r = mDec x) := fun x h => spec_Dec_ok x h
theorem all30 (w : World) (hJ : J w) : CtAt Tryd.prog ct30 w :=
  ct_by ok30 (cs30 w hJ) Tryd.func30 (by kernel_rfl) (H := (hint [(5, [.val 0 (.int .i64), .val 3 (.str)])])) law30 (by kernel_rfl)
noncomputable def E29 : Env := { tt, eqs := [], cts := [] }
theorem ok29 : EnvOk Tryd.prog E29 := ⟨ttOk, by kernel_rfl, rfl, mixOk⟩
theorem cs29 (w0 : World) (hJ : J w0) : EnvCts Tryd.prog E29 w0 w0.heap.size := by
  refine ⟨fun c hc => ?_, fun c hc => ?_⟩
  · cases hc
  · cases hc
noncomputable def ct29 : Ct := { f := 29, ps := [.v false .ro ls28, .v false .ro ls9, .v false .ro ls9], rs := [(false, ls28)], shared := false, pre := fun (x : (List Fld) × S × S) => pFieldSet x.1 x.2.1 x.2.2, F := fun (x : (List Fld) × S × S) => mFieldSet x.1 x.2.1 x.2.2 }
theorem law29 : ∀ x : (List Fld) × S × S, pFieldSet x.1 x.2.1 x.2.2 → s_spec_FieldSet x.1 x.2.1 x.2.2 (fun r => r = mFieldSet x.1 x.2.1 x.2.2) := fun x h => spec_FieldSet_ok x.1 x.2.1 x.2.2 h
theorem all29 (w : World) (hJ : J w) : CtAt Tryd.prog ct29 w :=
  ct_by ok29 (cs29 w hJ) Tryd.func29 (by kernel_rfl) (H := (hint [(4, [.reg 7 54 [.str, .str] true, .val 8 (.bool), .val 9 (.int .i64)])])) law29 (by kernel_rfl)
noncomputable def E14 : Env := { tt, eqs := [], cts := [ct30, ct29] }
theorem ok14 : EnvOk Tryd.prog E14 := ⟨ttOk, by kernel_rfl, rfl, mixOk⟩
theorem cs14 (w0 : World) (hJ : J w0) : EnvCts Tryd.prog E14 w0 w0.heap.size := by
  refine ⟨fun c hc => ?_, fun c hc => ?_⟩
  · rcases List.mem_cons.1 hc with rfl | hc
    · exact fun w hb => all30 w (J_below hJ hb)
    rcases List.mem_cons.1 hc with rfl | hc
    · exact fun w hb => all29 w (J_below hJ hb)
    cases hc
  · cases hc
noncomputable def ct14 : Ct := { f := 14, ps := [.v true .ro ls30, .v false .ro ls3], rs := [(true, ls30)], shared := false, pre := fun (x : Rsp × Int) => pWithAge x.1 x.2, F := fun (x : Rsp × Int) => mWithAge x.1 x.2 }
theorem law14 : ∀ x : Rsp × Int, pWithAge x.1 x.2 → s_spec_WithAge x.1 x.2 (fun r => r = mWithAge x.1 x.2) := fun x h => spec_WithAge_ok x.1 x.2 h
theorem all14 (w : World) (hJ : J w) : CtAt Tryd.prog ct14 w :=
  ct_by ok14 (cs14 w hJ) Tryd.func14 (by kernel_rfl) (H := (hint [])) law14 (by kernel_rfl)
noncomputable def E33 : Env := { tt, eqs := [], cts := [] }
theorem ok33 : EnvOk Tryd.prog E33 := ⟨ttOk, by kernel_rfl, rfl, mixOk⟩
theorem cs33 (w0 : World) (hJ : J w0) : EnvCts Tryd.prog E33 w0 w0.heap.size := by
  refine ⟨fun c hc => ?_, fun c hc => ?_⟩
  · cases hc
  · cases hc
noncomputable def ct33 : Ct := { f := 33, ps := [.v false .ro ls3], rs := [(false, ls3)], shared := false, pre := fun (x : Int) => pWithin x, F := fun (x : Int) => mWithin x }
theorem law33 : ∀ x : Int, pWithin x → s_impl_within x (fun r => r = mWithin x) := fun x h => impl_within_ok x h
theorem all33 (w : World) (hJ : J w) : CtAt Tryd.prog ct33 w :=
  ct_by ok33 (cs33 w hJ) Tryd.func33 (by kernel_rfl) (H := (hint [])) law33 (by kernel_rfl)
noncomputable def ct43 : Ct := itoaCt 43
theorem all43 (w : World) (hJ : J w) : CtAt Tryd.prog ct43 w := itoa_ct ⟨_, Tryd.func43, by kernel_rfl, by kernel_rfl⟩ (fun k h0 h1 => Tryd.strconv_Itoa k h0 h1 w hJ.1)
noncomputable def E32 : Env := { tt, eqs := [], cts := [ct43] }
theorem ok32 : EnvOk Tryd.prog E32 := ⟨ttOk, by kernel_rfl, rfl, mixOk⟩
theorem cs32 (w0 : World) (hJ : J w0) : EnvCts Tryd.prog E32 w0 w0.heap.size := by
  refine ⟨fun c hc => ?_, fun c hc => ?_⟩
  · rcases List.mem_cons.1 hc with rfl | hc
    · exact fun w hb => all43 w (J_below hJ hb)
    cases hc
  · cases hc
noncomputable def ct32 : Ct := { f := 32, ps := [.v false .ro ls3], rs := [(false, ls9)], shared := false, pre := fun (x : Int) => pDec x, F := fun (x : Int) => mDec x }
theorem law32 : ∀ x : Int, pDec x → s_impl_Dec x (fun r => r = mDec x) := fun x h => impl_Dec_ok x h
theorem all32 (w : World) (hJ : J w) : CtAt Tryd.prog ct32 w :=
  ct_by ok32 (cs32 w hJ) Tryd.func32 (by kernel_rfl) (H := (hint [])) law32 (by kernel_rfl)
noncomputable def E31 : Env := { tt, eqs := [], cts := [] }
theorem ok31 : EnvOk Tryd.prog E31 := ⟨ttOk, by kernel_rfl, rfl, mixOk⟩
theorem cs31 (w0 : World) (hJ : J w0) : EnvCts Tryd.prog E31 w0 w0.heap.size := by
  refine ⟨fun c hc => ?_, fun c hc => ?_⟩
  · cases hc
  · cases hc
noncomputable def ct31 : Ct := { f := 31, ps := [.v false .ro ls28, .v false .ro ls9, .v false .ro ls9], rs := [(false, ls28)], shared := false, pre := fun (x : (List Fld) × S × S) => pFieldSet x.1 x.2.1 x.2.2, F := fun (x : (List Fld) × S × S) => mFieldSet x.1 x.2.1 x.2.2 }
theorem law31 : ∀ x : (List Fld) × S × S, pFieldSet x.1 x.2.1 x.2.2 → s_impl_FieldSet x.1 x.2.1 x.2.2 (fun r => r = mFieldSet x.1 x.2.1 x.2.2) := fun x h => impl_FieldSet_ok x.1 x.2.1 x.2.2 h
theorem all31 (w : World) (hJ : J w) : CtAt Tryd.prog ct31 w :=
  ct_by ok31 (cs31 w hJ) Tryd.func31 (by kernel_rfl) (H := (hint [(4, [.reg 7 54 [.str, .str] true, .val 8 (.bool), .val 14 (.int .i64)])])) law31 (by kernel_rfl)
noncomputable def E15 : Env := { tt, eqs := [], cts := [ct33, ct32, ct31] }
theorem ok15 : EnvOk Tryd.prog E15 := ⟨ttOk, by kernel_rfl, rfl, mixOk⟩
theorem cs15 (w0 : World) (hJ : J w0) : EnvCts Tryd.prog E15 w0 w0.heap.size := by
  refine ⟨fun c hc => ?_, fun c hc => ?_⟩
  · rcases List.mem_cons.1 hc with rfl | hc
    · exact fun w hb => all33 w (J_below hJ hb)
    rcases List.mem_cons.1 hc with rfl | hc
    · exact fun w hb => all32 w (J_below hJ hb)
    rcases List.mem_cons.1 hc with rfl | hc
    · exact fun w hb => all31 w (J_below hJ hb)
    cases hc
  · cases hc
noncomputable def ct15 : Ct := { f := 15, ps := [.v true .ro ls30, .v false .ro ls3], rs := [(true, ls30)], shared := false, pre := fun (x : Rsp × Int) => pWithAge x.1 x.2, F := fun (x : Rsp × Int) => mWithAge x.1 x.2 }
theorem law15 : ∀ x : Rsp × Int, pWithAge x.1 x.2 → s_impl_WithAge x.1 x.2 (fun r => r = mWithAge x.1 x.2) := fun x h => impl_WithAge_ok x.1 x.2 h
theorem all15 (w : World) (hJ : J w) : CtAt Tryd.prog ct15 w :=
  ct_by ok15 (cs15 w hJ) Tryd.func15 (by kernel_rfl) (H := (hint [])) law15 (by kernel_rfl)
noncomputable def E42 : Env := { tt, eqs := [], cts := [] }
theorem ok42 : EnvOk Tryd.prog E42 := ⟨ttOk, by kernel_rfl, rfl, mixOk⟩
theorem cs42 (w0 : World) (hJ : J w0) : EnvCts Tryd.prog E42 w0 w0.heap.size := by
  refine ⟨fun c hc => ?_, fun c hc => ?_⟩
  · cases hc
  · cases hc
noncomputable def ct42 : Ct := { f := 42, ps := [.v true .ro ls54, .v true .ro ls54], rs := [(false, [.bool])], shared := false, pre := fun (q : Fld × Fld) => pEq q.1 q.2, F := fun (q : Fld × Fld) => eqF q.1 q.2 }
def st42 : List (EqStep Fld) := [.ne (fun (x y : Fld) => x.1 ≠ y.1), .ne (fun (x y : Fld) => x.2 ≠ y.2)]
def mk42 (a0 : S) (a1 : S) : Fld := (a0, a1)
theorem a42 (x y : Fld) : eqAll x y st42 ↔ x = y := by
  constructor
  · rintro ⟨h0, h1, -⟩
    have h0 : x.1 = y.1 := Classical.byContradiction h0
    have h1 : x.2 = y.2 := Classical.byContradiction h1
    show mk42 (x.1) (x.2) = mk42 (y.1) (y.2)
    rw [h0, h1]
    all_goals rfl
  · rintro rfl
    exact ⟨fun h => h rfl, fun h => h rfl, trivial⟩
theorem w42 (x y : Fld) (h : wd x) : eqFine x y st42 := by
  first | simp only [wd_pair] at h | skip
  simp only [eqFine, st42, wd_pair]
  all_goals simp only [h, and_self]
theorem law42 : ∀ q : Fld × Fld, pEq q.1 q.2 → eqSt q.1 q.2 st42 (fun r => r = eqF q.1 q.2) := fun q hq => eqSt_holds q.1 q.2 st42 (w42 q.1 q.2 hq) (eqF_iff.trans (a42 q.1 q.2).symm)
theorem all42 (w : World) (hJ : J w) : CtAt Tryd.prog ct42 w :=
  ct_by ok42 (cs42 w hJ) Tryd.func42 (by kernel_rfl) (H := (hint [])) law42 (by kernel_rfl)
noncomputable def E26 : Env := { tt, eqs := [], cts := [ct42] }
theorem ok26 : EnvOk Tryd.prog E26 := ⟨ttOk, by kernel_rfl, rfl, mixOk⟩
theorem cs26 (w0 : World) (hJ : J w0) : EnvCts Tryd.prog E26 w0 w0.heap.size := by
  refine ⟨fun c hc => ?_, fun c hc => ?_⟩
  · rcases List.mem_cons.1 hc with rfl | hc
    · exact fun w hb => all42 w (J_below hJ hb)
    cases hc
  · cases hc
noncomputable def ct26 : Ct := { f := 26, ps := [.v false .ro ls28, .v false .ro ls28], rs := [(false, [.bool])], shared := false, pre := fun (q : (List Fld) × (List Fld)) => pEq q.1 q.2, F := fun (q : (List Fld) × (List Fld)) => eqF q.1 q.2 }
theorem law26 : ∀ q : (List Fld) × (List Fld), pEq q.1 q.2 → eqS (α := Fld) Dft.dft (fun a b => pEq a b) (fun a b => eqF a b) q.1 q.2 (fun r => r = eqF q.1 q.2) := fun q hq => eqS_holds (α := Fld) Dft.dft (fun a b => pEq a b) (fun a b => eqF a b) q.1 q.2 hq.1 (fun i a _ h => hq.2 i a h) (fun _ _ => eqF_iff) eqF_iff
theorem all26 (w : World) (hJ : J w) : CtAt Tryd.prog ct26 w :=
  ct_by ok26 (cs26 w hJ) Tryd.func26 (by kernel_rfl) (H := (hint [(4, [.val 5 (.int .i64)])])) law26 (by kernel_rfl)
noncomputable def E10 : Env := { tt, eqs := [], cts := [ct26] }
theorem ok10 : EnvOk Tryd.prog E10 := ⟨ttOk, by kernel_rfl, rfl, mixOk⟩
theorem cs10 (w0 : World) (hJ : J w0) : EnvCts Tryd.prog E10 w0 w0.heap.size := by
  refine ⟨fun c hc => ?_, fun c hc => ?_⟩
  · rcases List.mem_cons.1 hc with rfl | hc
    · exact fun w hb => all26 w (J_below hJ hb)
    cases hc
  · cases hc
noncomputable def ct10 : Ct := { f := 10, ps := [.v true .ro ls30, .v true .ro ls30], rs := [(false, [.bool])], shared := false, pre := fun (q : Rsp × Rsp) => pEq q.1 q.2, F := fun (q : Rsp × Rsp) => eqF q.1 q.2 }
def st10 : List (EqStep Rsp) := [.ne (fun (x y : Rsp) => x.1 ≠ y.1), .call (fun (x _ : Rsp) => wd (x.2.1 : (List Fld))) (fun (x y : Rsp) => eqF (x.2.1 : (List Fld)) y.2.1), .ne (fun (x y : Rsp) => x.2.2 ≠ y.2.2)]
def mk10 (a0 : Int) (a1 : (List Fld)) (a2 : S) : Rsp := (a0, a1, a2)
theorem a10 (x y : Rsp) : eqAll x y st10 ↔ x = y := by
  constructor
  · rintro ⟨h0, h1, h2, -⟩
    have h0 : x.1 = y.1 := Classical.byContradiction h0
    have h1 : (x.2.1 : (List Fld)) = y.2.1 := eqF_iff.1 h1
    have h2 : x.2.2 = y.2.2 := Classical.byContradiction h2
    show mk10 (x.1) (x.2.1) (x.2.2) = mk10 (y.1) (y.2.1) (y.2.2)
    rw [h0, h1, h2]
    all_goals rfl
  · rintro rfl
    exact ⟨fun h => h rfl, eqF_iff.2 rfl, fun h => h rfl, trivial⟩
theorem w10 (x y : Rsp) (h : wd x) : eqFine x y st10 := by
  first | simp only [wd_pair] at h | skip
  simp only [eqFine, st10, wd_pair]
  all_goals simp only [h, and_self]
theorem law10 : ∀ q : Rsp × Rsp, pEq q.1 q.2 → eqSt q.1 q.2 st10 (fun r => r = eqF q.1 q.2) := fun q hq => eqSt_holds q.1 q.2 st10 (w10 q.1 q.2 hq) (eqF_iff.trans (a10 q.1 q.2).symm)
theorem all10 (w : World) (hJ : J w) : CtAt Tryd.prog ct10 w :=
  ct_by ok10 (cs10 w hJ) Tryd.func10 (by kernel_rfl) (H := (hint [])) law10 (by kernel_rfl)
noncomputable def E28 : Env := { tt, eqs := [], cts := [] }
theorem ok28 : EnvOk Tryd.prog E28 := ⟨ttOk, by kernel_rfl, rfl, mixOk⟩
theorem cs28 (w0 : World) (hJ : J w0) : EnvCts Tryd.prog E28 w0 w0.heap.size := by
  refine ⟨fun c hc => ?_, fun c hc => ?_⟩
  · cases hc
  · cases hc
noncomputable def ct28 : Ct := { f := 28, ps := [.v false .ro ls3], rs := [(false, ls9)], shared := false, pre := fun (x : Int) => pMarkText x, F := fun (x : Int) => mMarkText x }
theorem law28 : ∀ x : Int, pMarkText x → s_laws_markText x (fun r => r = mMarkText x) := fun x h => laws_markText_ok x h
theorem all28 (w : World) (hJ : J w) : CtAt Tryd.prog ct28 w :=
  ct_by ok28 (cs28 w hJ) Tryd.func28 (by kernel_rfl) (H := (hint [(4, [.val 0 (.int .i64), .val 3 (.str)])])) law28 (by kernel_rfl)
noncomputable def E27 : Env := { tt, eqs := [], cts := [ct28] }
theorem ok27 : EnvOk Tryd.prog E27 := ⟨ttOk, by kernel_rfl, rfl, mixOk⟩
theorem cs27 (m : Nat) (w0 : World) (hJ : Jn m w0) : EnvCts Tryd.prog E27 w0 m := by
  refine ⟨fun c hc => ?_, fun c hc => ?_⟩
  · rcases List.mem_cons.1 hc with rfl | hc
    · exact fun w hb => all28 w (Jn_J (Jn_below hJ hb))
    cases hc
  · cases hc
noncomputable def ct27 : CtM := { f := 27, ps := [.v false .io ls28, .v false .ro ls3], rs := [(false, ls3)], pre := fun (x : (List Fld) × Int) => pMarkFieldS x.1 x.2, F := fun (x : (List Fld) × Int) => mMarkFieldS x.1 x.2, W := fun (x : (List Fld) × Int) => wMarkFieldS x.1 x.2 }
theorem law27 : ∀ x : (List Fld) × Int, pMarkFieldS x.1 x.2 → s_laws_markFieldS x.1 x.2 (fun r y => r = mMarkFieldS x.1 x.2 ∧ y = wMarkFieldS x.1 x.2) := fun x h => laws_markFieldS_ok x.1 x.2 h
theorem all27 (m : Nat) (w : World) (hJ : Jn m w) : CtMAt Tryd.prog ct27 m w :=
  ctm_by ok27 (cs27 m w hJ) Tryd.func27 (by kernel_rfl) (H := (hint [(2, [.val 1 (.int .i64), .val 5 (.int .i64), .reg 0 54 [.str, .str] true])])) law27 (by kernel_rfl)
noncomputable def E11 : Env := { tt, eqs := [], cts := [], ms := [ct27] }
theorem ok11 : EnvOk Tryd.prog E11 := ⟨ttOk, by kernel_rfl, rfl, mixOk⟩
theorem cs11 (m : Nat) (w0 : World) (hJ : Jn m w0) : EnvCts Tryd.prog E11 w0 m := by
  refine ⟨fun c hc => ?_, fun c hc => ?_⟩
  · cases hc
  · rcases List.mem_cons.1 hc with rfl | hc
    · exact fun w hb => all27 m w (Jn_below hJ hb)
    cases hc
noncomputable def ct11 : CtM := { f := 11, ps := [.v true .io ls30, .v false .ro ls3], rs := [(false, ls3)], pre := fun (x : Rsp × Int) => pMarkResponse x.1 x.2, F := fun (x : Rsp × Int) => mMarkResponse x.1 x.2, W := fun (x : Rsp × Int) => wMarkResponse x.1 x.2 }
theorem law11 : ∀ x : Rsp × Int, pMarkResponse x.1 x.2 → s_laws_markResponse x.1 x.2 (fun r y => r = mMarkResponse x.1 x.2 ∧ y = wMarkResponse x.1 x.2) := fun x h => laws_markResponse_ok x.1 x.2 h
theorem all11 (m : Nat) (w : World) (hJ : Jn m w) : CtMAt Tryd.prog ct11 m w :=
  ctm_by ok11 (cs11 m w hJ) Tryd.func11 (by kernel_rfl) (H := (hint [])) law11 (by kernel_rfl)
noncomputable def E34 : Env := { tt, eqs := [], cts := [ct28] }
theorem ok34 : EnvOk Tryd.prog E34 := ⟨ttOk, by kernel_rfl, rfl, mixOk⟩
theorem cs34 (w0 : World) (hJ : J w0) : EnvCts Tryd.prog E34 w0 w0.heap.size := by
  refine ⟨fun c hc => ?_, fun c hc => ?_⟩
  · rcases List.mem_cons.1 hc with rfl | hc
    · exact fun w hb => all28 w (J_below hJ hb)
    cases hc
  · cases hc
noncomputable def ct34 : Ct := { f := 34, ps := [.v false .ro ls28, .v false .ro ls3], rs := [(false, ls3)], shared := false, pre := fun (x : (List Fld) × Int) => pHeldFieldS x.1 x.2, F := fun (x : (List Fld) × Int) => mHeldFieldS x.1 x.2 }
theorem law34 : ∀ x : (List Fld) × Int, pHeldFieldS x.1 x.2 → s_laws_heldFieldS x.1 x.2 (fun r => r = mHeldFieldS x.1 x.2) := fun x h => laws_heldFieldS_ok x.1 x.2 h
theorem all34 (w : World) (hJ : J w) : CtAt Tryd.prog ct34 w :=
  ct_by ok34 (cs34 w hJ) Tryd.func34 (by kernel_rfl) (H := (hint [(2, [.val 1 (.int .i64), .val 5 (.int .i64)])])) law34 (by kernel_rfl)
noncomputable def E16 : Env := { tt, eqs := [], cts := [ct34] }
theorem ok16 : EnvOk Tryd.prog E16 := ⟨ttOk, by kernel_rfl, rfl, mixOk⟩
theorem cs16 (w0 : World) (hJ : J w0) : EnvCts Tryd.prog E16 w0 w0.heap.size := by
  refine ⟨fun c hc => ?_, fun c hc => ?_⟩
  · rcases List.mem_cons.1 hc with rfl | hc
    · exact fun w hb => all34 w (J_below hJ hb)
    cases hc
  · cases hc
noncomputable def ct16 : Ct := { f := 16, ps := [.v true .ro ls30, .v false .ro ls3], rs := [(false, ls3)], shared := false, pre := fun (x : Rsp × Int) => pHeldResponse x.1 x.2, F := fun (x : Rsp × Int) => mHeldResponse x.1 x.2 }
theorem law16 : ∀ x : Rsp × Int, pHeldResponse x.1 x.2 → s_laws_heldResponse x.1 x.2 (fun r => r = mHeldResponse x.1 x.2) := fun x h => laws_heldResponse_ok x.1 x.2 h
theorem all16 (w : World) (hJ : J w) : CtAt Tryd.prog ct16 w :=
  ct_by ok16 (cs16 w hJ) Tryd.func16 (by kernel_rfl) (H := (hint [])) law16 (by kernel_rfl)
noncomputable def E4 : Env := { tt, eqs := [], cts := [ct5, ct7, ct14, ct15, ct10, ct16], ms := [ct11] }
theorem ok4 : EnvOk Tryd.prog E4 := ⟨ttOk, by kernel_rfl, rfl, mixOk⟩
theorem cs4 (w0 : World) (hJ : J w0) : EnvCts Tryd.prog E4 w0 w0.heap.size := by
  refine ⟨fun c hc => ?_, fun c hc => ?_⟩
  · rcases List.mem_cons.1 hc with rfl | hc
    · exact fun w hb => all5 w (J_below hJ hb)
    rcases List.mem_cons.1 hc with rfl | hc
    · exact fun w hb => all7 w (J_below hJ hb)
    rcases List.mem_cons.1 hc with rfl | hc
    · exact fun w hb => all14 w (J_below hJ hb)
    rcases List.mem_cons.1 hc with rfl | hc
    · exact fun w hb => all15 w (J_below hJ hb)
    rcases List.mem_cons.1 hc with rfl | hc
    · exact fun w hb => all10 w (J_below hJ hb)
    rcases List.mem_cons.1 hc with rfl | hc
    · exact fun w hb => all16 w (J_below hJ hb)
    cases hc
  · rcases List.mem_cons.1 hc with rfl | hc
    · exact fun w hb => all11 w0.heap.size w (Jn_of hJ hb)
    cases hc
noncomputable def ct4 : Ct := boolCt 4 [.v true .ro ls24, .v false .ro ls3] (fun (x : Rsp × Int) => p_FnExactWithAge x.1 x.2)
theorem law4 : ∀ x : Rsp × Int, p_FnExactWithAge x.1 x.2 → s_laws_FnExactWithAge x.1 x.2 (fun r => r = true) := fun x h => laws_FnExactWithAge_ok x.1 x.2 h
theorem all4 (w : World) (hJ : J w) : CtAt Tryd.prog ct4 w :=
  ct_by ok4 (cs4 w hJ) Tryd.func4 (by kernel_rfl) (H := (hint [])) law4 (by kernel_rfl)
end Go.Proofs.YtmpoeecmjoklcaaDoor.ApW
end
