/- A small verified machine for the operations of the given program, and plain laws of what its functions compute; without conditions of its own. Part 4. -/
import Derived.Test.YtinphipdffikhaaG2
import Derived.Test.YtinphipdffikhaaProg

section
/- A law's end: from the contract of the law's function to its calls. -/
set_option linter.unusedVariables false
namespace Go.Ev
open Go.RowKit Go.WideShapes
/-- The contract of a law's function: it returns true. -/
def boolCt (f : FuncId) (ps : List PT) (pre : pts ps → Prop) : Ct := { f, ps, rs := [(false, [.bool])], shared := false, pre, F := fun _ => (true : Bool) }
theorem bool_end {P : Program} {f : FuncId} {ps : List PT} {pre : pts ps → Prop} {W : World} {vals : Array Value} {x : pts ps} (h : CtAt P (boolCt f ps pre) W) (hargs : argsR (now W) W ps x vals.toList) (hpre : pre x) :
    Calls P f vals W fun e w' => e = .returned (.bool true) ∧ Below W.heap.size W w' := by
  obtain ⟨_, hc⟩ := h vals x (now W) (fun b hb => hb) hargs hpre
  refine hc.mono fun e w' ⟨vs, v, col, he, hb, hv, _, hr⟩ => ?_
  simp only [boolCt, resR] at hr
  obtain ⟨u, vs', cs, rfl, ho, hs, rfl⟩ := hr
  simp only [outR, repL] at ho
  obtain ⟨u2, cs', rfl, hb2, rfl⟩ := ho
  simp only [slotV, Bool.false_eq_true, if_false] at hs
  have e1 : u2 = u := by simpa using hs
  subst e1
  have hu : u2 = .bool true := hb2
  subst hu
  refine ⟨?_, hb⟩
  rw [he]
  rcases hv with hv | ⟨hv, _⟩
  · have : v = .bool true := by simpa using hv.symm
    rw [this]
  · simp at hv
theorem args_nil {S : Nat → Prop} {W : World} : argsR S W [] () [] := rfl
theorem args_cons {S : Nat → Prop} {W : World} {p : PT} {ps : List PT} {x : p.den} {xs : pts ps} {v : Value} {vs : List Value} (h1 : argR S W p x v) (h2 : argsR S W ps xs vs) : argsR S W (p :: ps) (pmk x xs) (v :: vs) := by
  simp only [argsR]
  exact ⟨v, vs, rfl, by rw [phd_pmk]; exact h1, by rw [ptl_pmk]; exact h2⟩
theorem arg_agg {S : Nat → Prop} {W : World} {ts : List L} {x : dens ts} {cs : Array Value} (h : repLs (roRow W S) ts [] 0 0 x cs.toList) : argR S W (.v true .ro ts) x (.agg cs) := ⟨cs.toList, h, by simp [slotV]⟩
theorem arg_one {S : Nat → Prop} {W : World} {ts : List L} {x : dens ts} {v : Value} (h : repLs (roRow W S) ts [] 0 0 x [v]) : argR S W (.v false .ro ts) x v := ⟨[v], h, by simp [slotV]⟩
theorem by_like {A B : Prop} (hA : A) (h : A = B) : B := h ▸ hA
end Go.Ev
end

section
/- Laws of the plain library: worlds. -/
set_option linter.unusedVariables false
namespace Go.Ev
theorem wld_conns (w : Wld) (h : md w) : w.2.2.1.length ≤ 1048576 := by
  unfold md at h
  have := cz_len w.2.2.1
  simp only [cz_pair] at h
  omega
theorem wld_flights (w : Wld) (h : md w) : w.2.2.2.2.2.1.length ≤ 1048576 := by
  unfold md at h
  have := cz_len w.2.2.2.2.2.1
  simp only [cz_pair] at h
  omega
theorem spec_Blocked_ok (a0 : Wld) (a1 : Int) (h : pBlocked a0 a1) : s_spec_Blocked a0 a1 (fun r => r = mBlocked a0 a1) := by
  have h1 := wld_conns a0 h
  have h2 := wld_flights a0 h
  unfold s_spec_Blocked mBlocked
  rw [wrap64 (by omega) (by omega), wrap64 (by omega) (by omega)]
  refine ⟨trivial, fun hc => ?_, fun hc => ?_⟩
  · rw [Bool.not_eq_true] at hc; rw [hc]; rfl
  · have hc := Classical.not_not.1 hc
    have hr : 0 ≤ a1 ∧ a1 ≤ (a0.2.2.1.length : Int) - 1 := by unfold mIn at hc; simpa using hc
    rw [hc]
    refine ⟨by omega, by omega, fun h7 => by simp [h7], fun h7 => ⟨fun h5 => ⟨trivial, fun hf => ?_, fun hf => ?_⟩, fun h5 => by simp [h7, h5]⟩⟩
    · have hr2 : 0 ≤ (rx a0.2.2.1 a1).2.2.2.2.2.2.2.2.2.2.2.2.2.2.2.2.2.2.2.1 ∧ (rx a0.2.2.1 a1).2.2.2.2.2.2.2.2.2.2.2.2.2.2.2.2.2.2.2.1 ≤ (a0.2.2.2.2.2.1.length : Int) - 1 := by unfold mIn at hf; simpa using hf
      refine ⟨by omega, by omega, ?_⟩
      rw [hf]
      simp [h7, h5]
    · rw [Bool.not_eq_true] at hf
      rw [hf]
      simp [h7, h5]
theorem impl_Blocked_ok (a0 : Wld) (a1 : Int) (h : pBlocked a0 a1) : s_impl_Blocked a0 a1 (fun r => r = mBlocked a0 a1) := spec_Blocked_ok a0 a1 h
theorem spec_AllDone_ok (a0 : Wld) (h : pAllDone a0) : s_spec_AllDone a0 (fun r => r = mAllDone a0) := by
  have h1 := wld_conns a0 h
  refine scanT_ok (xs := a0.2.2.1) (C := fun c : Cnn => c.1 ≠ 7) (Qh := fun _ => false = mAllDone a0) (by simp only [maxLen]; omega) (fun i hi hc _ => ?_) (fun hx => ?_)
  · unfold mAllDone mAllDone_1
    rw [any_true hi (by simpa using hc)]; rfl
  · unfold mAllDone mAllDone_1
    rw [List.any_eq_false.2 fun x hx' => by have := hx x hx'; simpa using this]; rfl
theorem impl_AllDone_1_ok (a0 : Cnn) : s_impl_AllDone_1 a0 (fun r => r = mAllDone_1 a0) := rfl
theorem IndexFunc_AllDone_1_ok (a0 : List Cnn) (a1 : Unit) (h : pIndexFunc_AllDone_1 a0 a1) : s_IndexFunc_AllDone_1 a0 a1 (fun r => r = mIndexFunc_AllDone_1 a0 a1) :=
  idxS_ok (P := pAllDone_1) h fun _ _ => trivial
theorem ContainsFunc_AllDone_1_ok (a0 : List Cnn) (a1 : Unit) (h : pContainsFunc_AllDone_1 a0 a1) : s_ContainsFunc_AllDone_1 a0 a1 (fun r => r = mContainsFunc_AllDone_1 a0 a1) := ⟨h, idxI_nonneg⟩
theorem impl_AllDone_ok (a0 : Wld) (h : pAllDone a0) : s_impl_AllDone a0 (fun r => r = mAllDone a0) := by
  have h1 := wld_conns a0 h
  refine ⟨by unfold pContainsFunc_AllDone_1; simp only [maxLen]; omega, ?_⟩
  unfold mAllDone mContainsFunc_AllDone_1
  cases a0.2.2.1.any mAllDone_1 <;> rfl

/-! ### Laws -/
/-- The budget holds: the data are of moderate size. -/
theorem szF_md {α : Type} [Cz α] {x : α} {k : Int} (h : ¬ szF x k < 0) (h0 : 0 ≤ k) (h1 : k ≤ 1048576) : md x := by
  unfold szF leftI at h
  unfold md
  split at h
  · omega
  · omega
def p_FnExactBlocked (w : Wld) (i : Int) : Prop := wd w ∧ wd i
def p_FnExactAllDone (w : Wld) : Prop := wd w
theorem laws_FnExactBlocked_ok (a0 : Wld) (a1 : Int) (h : p_FnExactBlocked a0 a1) : s_laws_FnExactBlocked a0 a1 (fun r => r = true) := by
  replace h := h.1
  refine ⟨⟨h, by omega, by simp [capI]⟩, fun _ => rfl, fun hs => ?_⟩
  have hm : md a0 := szF_md hs (by omega) (by omega)
  exact ⟨hm, hm, hm, hm, fun hne => absurd rfl hne, fun _ => ⟨hm, h, fun hne => absurd (eqF_iff.2 rfl) hne, fun _ => rfl⟩⟩
theorem laws_FnExactAllDone_ok (a0 : Wld) (h : p_FnExactAllDone a0) : s_laws_FnExactAllDone a0 (fun r => r = true) := by
  refine ⟨⟨h, by omega, by simp [capI]⟩, fun _ => rfl, fun hs => ?_⟩
  have hm : md a0 := szF_md hs (by omega) (by omega)
  exact ⟨hm, hm, hm, hm, fun hne => absurd rfl hne, fun _ => ⟨hm, h, fun hne => absurd (eqF_iff.2 rfl) hne, fun _ => rfl⟩⟩
end Go.Ev
end

section
set_option linter.unusedVariables false
namespace Go.Proofs.YtinphipdffikhaaEv
open Go Go.Ev Go.Proofs Go.RowKit
abbrev ls3 : List L := [.int .i64]
abbrev ls4 : List L := [.bool]
abbrev ls22 : List L := [.list 93 [.int .i64, .str, .int .i64, .str, .str, .list 166 [.str, .str], .str, .str, .str, .list 166 [.str, .str], .str, .str, .list 166 [.str, .str], .int .i64, .list 166 [.str, .str], .str, .int .i64, .int .i64, .bool, .int .i64, .int .i64, .int .i64, .int .i64, .bool, .int .i64, .list 166 [.str, .str], .str, .list 154 [.int .i64, .int .i64, .list 166 [.str, .str], .str]]]
abbrev ls23 : List L := [.list 124 [.int .i64, .int .i64, .list 169 [.str, .list 166 [.str, .str], .int .i64, .list 166 [.str, .str], .str, .int .i64, .int .i64, .bool], .int .i64]]
abbrev ls24 : List L := [.list 127 [.str, .int .i64]]
abbrev ls26 : List L := [.list 124 [.int .i64, .int .i64, .list 169 [.str, .list 166 [.str, .str], .int .i64, .list 166 [.str, .str], .str, .int .i64, .int .i64, .bool], .int .i64], .list 127 [.str, .int .i64]]
abbrev ls27 : List L := [.list 98 [.str, .bool, .int .i64, .bool, .bool, .str, .str, .list 166 [.str, .str], .str, .int .i64, .list 166 [.str, .str], .str, .int .i64, .int .i64]]
abbrev ls28 : List L := [.list 130 [.str, .str, .int .i64, .int .i64, .bool, .bool, .list 166 [.str, .str]]]
abbrev ls30 : List L := [.list 130 [.str, .str, .int .i64, .int .i64, .bool, .bool, .list 166 [.str, .str]]]
abbrev ls31 : List L := [.list 102 [.int .i64, .int .i64, .int .i64, .str, .int .i64, .int .i64]]
abbrev ls33 : List L := [.int .i64, .int .i64, .list 93 [.int .i64, .str, .int .i64, .str, .str, .list 166 [.str, .str], .str, .str, .str, .list 166 [.str, .str], .str, .str, .list 166 [.str, .str], .int .i64, .list 166 [.str, .str], .str, .int .i64, .int .i64, .bool, .int .i64, .int .i64, .int .i64, .int .i64, .bool, .int .i64, .list 166 [.str, .str], .str, .list 154 [.int .i64, .int .i64, .list 166 [.str, .str], .str]], .list 124 [.int .i64, .int .i64, .list 169 [.str, .list 166 [.str, .str], .int .i64, .list 166 [.str, .str], .str, .int .i64, .int .i64, .bool], .int .i64], .list 127 [.str, .int .i64], .list 98 [.str, .bool, .int .i64, .bool, .bool, .str, .str, .list 166 [.str, .str], .str, .int .i64, .list 166 [.str, .str], .str, .int .i64, .int .i64], .list 130 [.str, .str, .int .i64, .int .i64, .bool, .bool, .list 166 [.str, .str]], .list 102 [.int .i64, .int .i64, .int .i64, .str, .int .i64, .int .i64]]
abbrev ls36 : List L := [.list 68 [.int .i64, .str, .int .i64, .str, .str, .list 170 [.str, .str], .str, .str, .str, .list 170 [.str, .str], .str, .str, .list 170 [.str, .str], .int .i64, .list 170 [.str, .str], .str, .int .i64, .int .i64, .bool, .int .i64, .int .i64, .int .i64, .int .i64, .bool, .int .i64, .list 170 [.str, .str], .str, .list 158 [.int .i64, .int .i64, .list 170 [.str, .str], .str]]]
abbrev ls37 : List L := [.list 137 [.int .i64, .int .i64, .list 173 [.str, .list 170 [.str, .str], .int .i64, .list 170 [.str, .str], .str, .int .i64, .int .i64, .bool], .int .i64]]
abbrev ls38 : List L := [.list 139 [.str, .int .i64]]
abbrev ls40 : List L := [.list 137 [.int .i64, .int .i64, .list 173 [.str, .list 170 [.str, .str], .int .i64, .list 170 [.str, .str], .str, .int .i64, .int .i64, .bool], .int .i64], .list 139 [.str, .int .i64]]
abbrev ls41 : List L := [.list 70 [.str, .bool, .int .i64, .bool, .bool, .str, .str, .list 170 [.str, .str], .str, .int .i64, .list 170 [.str, .str], .str, .int .i64, .int .i64]]
abbrev ls42 : List L := [.list 142 [.str, .str, .int .i64, .int .i64, .bool, .bool, .list 170 [.str, .str]]]
abbrev ls44 : List L := [.list 142 [.str, .str, .int .i64, .int .i64, .bool, .bool, .list 170 [.str, .str]]]
abbrev ls45 : List L := [.list 108 [.int .i64, .int .i64, .int .i64, .str, .int .i64, .int .i64]]
abbrev ls47 : List L := [.int .i64, .int .i64, .list 68 [.int .i64, .str, .int .i64, .str, .str, .list 170 [.str, .str], .str, .str, .str, .list 170 [.str, .str], .str, .str, .list 170 [.str, .str], .int .i64, .list 170 [.str, .str], .str, .int .i64, .int .i64, .bool, .int .i64, .int .i64, .int .i64, .int .i64, .bool, .int .i64, .list 170 [.str, .str], .str, .list 158 [.int .i64, .int .i64, .list 170 [.str, .str], .str]], .list 137 [.int .i64, .int .i64, .list 173 [.str, .list 170 [.str, .str], .int .i64, .list 170 [.str, .str], .str, .int .i64, .int .i64, .bool], .int .i64], .list 139 [.str, .int .i64], .list 70 [.str, .bool, .int .i64, .bool, .bool, .str, .str, .list 170 [.str, .str], .str, .int .i64, .list 170 [.str, .str], .str, .int .i64, .int .i64], .list 142 [.str, .str, .int .i64, .int .i64, .bool, .bool, .list 170 [.str, .str]], .list 108 [.int .i64, .int .i64, .int .i64, .str, .int .i64, .int .i64]]
abbrev ls59 : List L := [.list 170 [.str, .str]]
abbrev ls61 : List L := [.str, .str, .list 170 [.str, .str], .str]
abbrev ls63 : List L := [.int .i64, .list 170 [.str, .str], .str]
abbrev ls65 : List L := [.str, .list 170 [.str, .str], .int .i64, .list 170 [.str, .str], .str, .int .i64, .int .i64]
abbrev ls66 : List L := [.list 158 [.int .i64, .int .i64, .list 170 [.str, .str], .str]]
abbrev ls68 : List L := [.int .i64, .str, .int .i64, .str, .str, .list 170 [.str, .str], .str, .str, .str, .list 170 [.str, .str], .str, .str, .list 170 [.str, .str], .int .i64, .list 170 [.str, .str], .str, .int .i64, .int .i64, .bool, .int .i64, .int .i64, .int .i64, .int .i64, .bool, .int .i64, .list 170 [.str, .str], .str, .list 158 [.int .i64, .int .i64, .list 170 [.str, .str], .str]]
abbrev ls70 : List L := [.str, .bool, .int .i64, .bool, .bool, .str, .str, .list 170 [.str, .str], .str, .int .i64, .list 170 [.str, .str], .str, .int .i64, .int .i64]
abbrev ls84 : List L := [.list 166 [.str, .str]]
abbrev ls86 : List L := [.str, .str, .list 166 [.str, .str], .str]
abbrev ls88 : List L := [.int .i64, .list 166 [.str, .str], .str]
abbrev ls90 : List L := [.str, .list 166 [.str, .str], .int .i64, .list 166 [.str, .str], .str, .int .i64, .int .i64]
abbrev ls91 : List L := [.list 154 [.int .i64, .int .i64, .list 166 [.str, .str], .str]]
abbrev ls93 : List L := [.int .i64, .str, .int .i64, .str, .str, .list 166 [.str, .str], .str, .str, .str, .list 166 [.str, .str], .str, .str, .list 166 [.str, .str], .int .i64, .list 166 [.str, .str], .str, .int .i64, .int .i64, .bool, .int .i64, .int .i64, .int .i64, .int .i64, .bool, .int .i64, .list 166 [.str, .str], .str, .list 154 [.int .i64, .int .i64, .list 166 [.str, .str], .str]]
abbrev ls98 : List L := [.str, .bool, .int .i64, .bool, .bool, .str, .str, .list 166 [.str, .str], .str, .int .i64, .list 166 [.str, .str], .str, .int .i64, .int .i64]
abbrev ls102 : List L := [.int .i64, .int .i64, .int .i64, .str, .int .i64, .int .i64]
abbrev ls108 : List L := [.int .i64, .int .i64, .int .i64, .str, .int .i64, .int .i64]
abbrev ls122 : List L := [.list 169 [.str, .list 166 [.str, .str], .int .i64, .list 166 [.str, .str], .str, .int .i64, .int .i64, .bool]]
abbrev ls124 : List L := [.int .i64, .int .i64, .list 169 [.str, .list 166 [.str, .str], .int .i64, .list 166 [.str, .str], .str, .int .i64, .int .i64, .bool], .int .i64]
abbrev ls127 : List L := [.str, .int .i64]
abbrev ls130 : List L := [.str, .str, .int .i64, .int .i64, .bool, .bool, .list 166 [.str, .str]]
abbrev ls135 : List L := [.list 173 [.str, .list 170 [.str, .str], .int .i64, .list 170 [.str, .str], .str, .int .i64, .int .i64, .bool]]
abbrev ls137 : List L := [.int .i64, .int .i64, .list 173 [.str, .list 170 [.str, .str], .int .i64, .list 170 [.str, .str], .str, .int .i64, .int .i64, .bool], .int .i64]
abbrev ls139 : List L := [.str, .int .i64]
abbrev ls142 : List L := [.str, .str, .int .i64, .int .i64, .bool, .bool, .list 170 [.str, .str]]
abbrev ls154 : List L := [.int .i64, .int .i64, .list 166 [.str, .str], .str]
abbrev ls158 : List L := [.int .i64, .int .i64, .list 170 [.str, .str], .str]
abbrev ls166 : List L := [.str, .str]
abbrev ls169 : List L := [.str, .list 166 [.str, .str], .int .i64, .list 166 [.str, .str], .str, .int .i64, .int .i64, .bool]
abbrev ls170 : List L := [.str, .str]
abbrev ls173 : List L := [.str, .list 170 [.str, .str], .int .i64, .list 170 [.str, .str], .str, .int .i64, .int .i64, .bool]
def tt : List (Nat × TI) := [
  (2, ⟨.sc, [.int .i64]⟩),
  (3, ⟨.sc, [.int .i64]⟩),
  (4, ⟨.sc, [.bool]⟩),
  (5, ⟨.sc, [.int .u8]⟩),
  (6, ⟨.sc, [.int .u8]⟩),
  (7, ⟨.st [(0, [.int .i64]), (1, [.int .i64]), (2, [.bool]), (3, [.int .u8])], [.int .i64, .int .i64, .bool, .int .u8]⟩),
  (8, ⟨.st [(0, [.int .i64]), (1, [.int .i64]), (2, [.bool]), (3, [.int .u8])], [.int .i64, .int .i64, .bool, .int .u8]⟩),
  (9, ⟨.sc, [.str]⟩),
  (10, ⟨.sc, [.str]⟩),
  (11, ⟨.sc, [.str]⟩),
  (12, ⟨.sc, [.int .u64]⟩),
  (13, ⟨.st [(0, [.str]), (1, [.int .u64])], [.str, .int .u64]⟩),
  (14, ⟨.st [(0, [.str]), (1, [.int .u64])], [.str, .int .u64]⟩),
  (21, ⟨.sc, [.int .i32]⟩),
  (22, ⟨.sl 93 [.int .i64, .str, .int .i64, .str, .str, .list 166 [.str, .str], .str, .str, .str, .list 166 [.str, .str], .str, .str, .list 166 [.str, .str], .int .i64, .list 166 [.str, .str], .str, .int .i64, .int .i64, .bool, .int .i64, .int .i64, .int .i64, .int .i64, .bool, .int .i64, .list 166 [.str, .str], .str, .list 154 [.int .i64, .int .i64, .list 166 [.str, .str], .str]] 400, [.list 93 [.int .i64, .str, .int .i64, .str, .str, .list 166 [.str, .str], .str, .str, .str, .list 166 [.str, .str], .str, .str, .list 166 [.str, .str], .int .i64, .list 166 [.str, .str], .str, .int .i64, .int .i64, .bool, .int .i64, .int .i64, .int .i64, .int .i64, .bool, .int .i64, .list 166 [.str, .str], .str, .list 154 [.int .i64, .int .i64, .list 166 [.str, .str], .str]]]⟩),
  (23, ⟨.sl 124 [.int .i64, .int .i64, .list 169 [.str, .list 166 [.str, .str], .int .i64, .list 166 [.str, .str], .str, .int .i64, .int .i64, .bool], .int .i64] 48, [.list 124 [.int .i64, .int .i64, .list 169 [.str, .list 166 [.str, .str], .int .i64, .list 166 [.str, .str], .str, .int .i64, .int .i64, .bool], .int .i64]]⟩),
  (24, ⟨.sl 127 [.str, .int .i64] 24, [.list 127 [.str, .int .i64]]⟩),
  (25, ⟨.st [(0, [.list 124 [.int .i64, .int .i64, .list 169 [.str, .list 166 [.str, .str], .int .i64, .list 166 [.str, .str], .str, .int .i64, .int .i64, .bool], .int .i64]]), (1, [.list 127 [.str, .int .i64]])], [.list 124 [.int .i64, .int .i64, .list 169 [.str, .list 166 [.str, .str], .int .i64, .list 166 [.str, .str], .str, .int .i64, .int .i64, .bool], .int .i64], .list 127 [.str, .int .i64]]⟩),
  (26, ⟨.st [(0, [.list 124 [.int .i64, .int .i64, .list 169 [.str, .list 166 [.str, .str], .int .i64, .list 166 [.str, .str], .str, .int .i64, .int .i64, .bool], .int .i64]]), (1, [.list 127 [.str, .int .i64]])], [.list 124 [.int .i64, .int .i64, .list 169 [.str, .list 166 [.str, .str], .int .i64, .list 166 [.str, .str], .str, .int .i64, .int .i64, .bool], .int .i64], .list 127 [.str, .int .i64]]⟩),
  (27, ⟨.sl 98 [.str, .bool, .int .i64, .bool, .bool, .str, .str, .list 166 [.str, .str], .str, .int .i64, .list 166 [.str, .str], .str, .int .i64, .int .i64] 176, [.list 98 [.str, .bool, .int .i64, .bool, .bool, .str, .str, .list 166 [.str, .str], .str, .int .i64, .list 166 [.str, .str], .str, .int .i64, .int .i64]]⟩),
  (28, ⟨.sl 130 [.str, .str, .int .i64, .int .i64, .bool, .bool, .list 166 [.str, .str]] 80, [.list 130 [.str, .str, .int .i64, .int .i64, .bool, .bool, .list 166 [.str, .str]]]⟩),
  (29, ⟨.st [(0, [.list 130 [.str, .str, .int .i64, .int .i64, .bool, .bool, .list 166 [.str, .str]]])], [.list 130 [.str, .str, .int .i64, .int .i64, .bool, .bool, .list 166 [.str, .str]]]⟩),
  (30, ⟨.st [(0, [.list 130 [.str, .str, .int .i64, .int .i64, .bool, .bool, .list 166 [.str, .str]]])], [.list 130 [.str, .str, .int .i64, .int .i64, .bool, .bool, .list 166 [.str, .str]]]⟩),
  (31, ⟨.sl 102 [.int .i64, .int .i64, .int .i64, .str, .int .i64, .int .i64] 56, [.list 102 [.int .i64, .int .i64, .int .i64, .str, .int .i64, .int .i64]]⟩),
  (32, ⟨.st [(0, [.int .i64]), (1, [.int .i64]), (2, [.list 93 [.int .i64, .str, .int .i64, .str, .str, .list 166 [.str, .str], .str, .str, .str, .list 166 [.str, .str], .str, .str, .list 166 [.str, .str], .int .i64, .list 166 [.str, .str], .str, .int .i64, .int .i64, .bool, .int .i64, .int .i64, .int .i64, .int .i64, .bool, .int .i64, .list 166 [.str, .str], .str, .list 154 [.int .i64, .int .i64, .list 166 [.str, .str], .str]]]), (3, [.list 124 [.int .i64, .int .i64, .list 169 [.str, .list 166 [.str, .str], .int .i64, .list 166 [.str, .str], .str, .int .i64, .int .i64, .bool], .int .i64], .list 127 [.str, .int .i64]]), (5, [.list 98 [.str, .bool, .int .i64, .bool, .bool, .str, .str, .list 166 [.str, .str], .str, .int .i64, .list 166 [.str, .str], .str, .int .i64, .int .i64]]), (6, [.list 130 [.str, .str, .int .i64, .int .i64, .bool, .bool, .list 166 [.str, .str]]]), (7, [.list 102 [.int .i64, .int .i64, .int .i64, .str, .int .i64, .int .i64]])], [.int .i64, .int .i64, .list 93 [.int .i64, .str, .int .i64, .str, .str, .list 166 [.str, .str], .str, .str, .str, .list 166 [.str, .str], .str, .str, .list 166 [.str, .str], .int .i64, .list 166 [.str, .str], .str, .int .i64, .int .i64, .bool, .int .i64, .int .i64, .int .i64, .int .i64, .bool, .int .i64, .list 166 [.str, .str], .str, .list 154 [.int .i64, .int .i64, .list 166 [.str, .str], .str]], .list 124 [.int .i64, .int .i64, .list 169 [.str, .list 166 [.str, .str], .int .i64, .list 166 [.str, .str], .str, .int .i64, .int .i64, .bool], .int .i64], .list 127 [.str, .int .i64], .list 98 [.str, .bool, .int .i64, .bool, .bool, .str, .str, .list 166 [.str, .str], .str, .int .i64, .list 166 [.str, .str], .str, .int .i64, .int .i64], .list 130 [.str, .str, .int .i64, .int .i64, .bool, .bool, .list 166 [.str, .str]], .list 102 [.int .i64, .int .i64, .int .i64, .str, .int .i64, .int .i64]]⟩),
  (33, ⟨.st [(0, [.int .i64]), (1, [.int .i64]), (2, [.list 93 [.int .i64, .str, .int .i64, .str, .str, .list 166 [.str, .str], .str, .str, .str, .list 166 [.str, .str], .str, .str, .list 166 [.str, .str], .int .i64, .list 166 [.str, .str], .str, .int .i64, .int .i64, .bool, .int .i64, .int .i64, .int .i64, .int .i64, .bool, .int .i64, .list 166 [.str, .str], .str, .list 154 [.int .i64, .int .i64, .list 166 [.str, .str], .str]]]), (3, [.list 124 [.int .i64, .int .i64, .list 169 [.str, .list 166 [.str, .str], .int .i64, .list 166 [.str, .str], .str, .int .i64, .int .i64, .bool], .int .i64], .list 127 [.str, .int .i64]]), (5, [.list 98 [.str, .bool, .int .i64, .bool, .bool, .str, .str, .list 166 [.str, .str], .str, .int .i64, .list 166 [.str, .str], .str, .int .i64, .int .i64]]), (6, [.list 130 [.str, .str, .int .i64, .int .i64, .bool, .bool, .list 166 [.str, .str]]]), (7, [.list 102 [.int .i64, .int .i64, .int .i64, .str, .int .i64, .int .i64]])], [.int .i64, .int .i64, .list 93 [.int .i64, .str, .int .i64, .str, .str, .list 166 [.str, .str], .str, .str, .str, .list 166 [.str, .str], .str, .str, .list 166 [.str, .str], .int .i64, .list 166 [.str, .str], .str, .int .i64, .int .i64, .bool, .int .i64, .int .i64, .int .i64, .int .i64, .bool, .int .i64, .list 166 [.str, .str], .str, .list 154 [.int .i64, .int .i64, .list 166 [.str, .str], .str]], .list 124 [.int .i64, .int .i64, .list 169 [.str, .list 166 [.str, .str], .int .i64, .list 166 [.str, .str], .str, .int .i64, .int .i64, .bool], .int .i64], .list 127 [.str, .int .i64], .list 98 [.str, .bool, .int .i64, .bool, .bool, .str, .str, .list 166 [.str, .str], .str, .int .i64, .list 166 [.str, .str], .str, .int .i64, .int .i64], .list 130 [.str, .str, .int .i64, .int .i64, .bool, .bool, .list 166 [.str, .str]], .list 102 [.int .i64, .int .i64, .int .i64, .str, .int .i64, .int .i64]]⟩),
  (36, ⟨.sl 68 [.int .i64, .str, .int .i64, .str, .str, .list 170 [.str, .str], .str, .str, .str, .list 170 [.str, .str], .str, .str, .list 170 [.str, .str], .int .i64, .list 170 [.str, .str], .str, .int .i64, .int .i64, .bool, .int .i64, .int .i64, .int .i64, .int .i64, .bool, .int .i64, .list 170 [.str, .str], .str, .list 158 [.int .i64, .int .i64, .list 170 [.str, .str], .str]] 400, [.list 68 [.int .i64, .str, .int .i64, .str, .str, .list 170 [.str, .str], .str, .str, .str, .list 170 [.str, .str], .str, .str, .list 170 [.str, .str], .int .i64, .list 170 [.str, .str], .str, .int .i64, .int .i64, .bool, .int .i64, .int .i64, .int .i64, .int .i64, .bool, .int .i64, .list 170 [.str, .str], .str, .list 158 [.int .i64, .int .i64, .list 170 [.str, .str], .str]]]⟩),
  (37, ⟨.sl 137 [.int .i64, .int .i64, .list 173 [.str, .list 170 [.str, .str], .int .i64, .list 170 [.str, .str], .str, .int .i64, .int .i64, .bool], .int .i64] 48, [.list 137 [.int .i64, .int .i64, .list 173 [.str, .list 170 [.str, .str], .int .i64, .list 170 [.str, .str], .str, .int .i64, .int .i64, .bool], .int .i64]]⟩),
  (38, ⟨.sl 139 [.str, .int .i64] 24, [.list 139 [.str, .int .i64]]⟩),
  (39, ⟨.st [(0, [.list 137 [.int .i64, .int .i64, .list 173 [.str, .list 170 [.str, .str], .int .i64, .list 170 [.str, .str], .str, .int .i64, .int .i64, .bool], .int .i64]]), (1, [.list 139 [.str, .int .i64]])], [.list 137 [.int .i64, .int .i64, .list 173 [.str, .list 170 [.str, .str], .int .i64, .list 170 [.str, .str], .str, .int .i64, .int .i64, .bool], .int .i64], .list 139 [.str, .int .i64]]⟩),
  (40, ⟨.st [(0, [.list 137 [.int .i64, .int .i64, .list 173 [.str, .list 170 [.str, .str], .int .i64, .list 170 [.str, .str], .str, .int .i64, .int .i64, .bool], .int .i64]]), (1, [.list 139 [.str, .int .i64]])], [.list 137 [.int .i64, .int .i64, .list 173 [.str, .list 170 [.str, .str], .int .i64, .list 170 [.str, .str], .str, .int .i64, .int .i64, .bool], .int .i64], .list 139 [.str, .int .i64]]⟩),
  (41, ⟨.sl 70 [.str, .bool, .int .i64, .bool, .bool, .str, .str, .list 170 [.str, .str], .str, .int .i64, .list 170 [.str, .str], .str, .int .i64, .int .i64] 176, [.list 70 [.str, .bool, .int .i64, .bool, .bool, .str, .str, .list 170 [.str, .str], .str, .int .i64, .list 170 [.str, .str], .str, .int .i64, .int .i64]]⟩),
  (42, ⟨.sl 142 [.str, .str, .int .i64, .int .i64, .bool, .bool, .list 170 [.str, .str]] 80, [.list 142 [.str, .str, .int .i64, .int .i64, .bool, .bool, .list 170 [.str, .str]]]⟩),
  (43, ⟨.st [(0, [.list 142 [.str, .str, .int .i64, .int .i64, .bool, .bool, .list 170 [.str, .str]]])], [.list 142 [.str, .str, .int .i64, .int .i64, .bool, .bool, .list 170 [.str, .str]]]⟩),
  (44, ⟨.st [(0, [.list 142 [.str, .str, .int .i64, .int .i64, .bool, .bool, .list 170 [.str, .str]]])], [.list 142 [.str, .str, .int .i64, .int .i64, .bool, .bool, .list 170 [.str, .str]]]⟩),
  (45, ⟨.sl 108 [.int .i64, .int .i64, .int .i64, .str, .int .i64, .int .i64] 56, [.list 108 [.int .i64, .int .i64, .int .i64, .str, .int .i64, .int .i64]]⟩),
  (46, ⟨.st [(0, [.int .i64]), (1, [.int .i64]), (2, [.list 68 [.int .i64, .str, .int .i64, .str, .str, .list 170 [.str, .str], .str, .str, .str, .list 170 [.str, .str], .str, .str, .list 170 [.str, .str], .int .i64, .list 170 [.str, .str], .str, .int .i64, .int .i64, .bool, .int .i64, .int .i64, .int .i64, .int .i64, .bool, .int .i64, .list 170 [.str, .str], .str, .list 158 [.int .i64, .int .i64, .list 170 [.str, .str], .str]]]), (3, [.list 137 [.int .i64, .int .i64, .list 173 [.str, .list 170 [.str, .str], .int .i64, .list 170 [.str, .str], .str, .int .i64, .int .i64, .bool], .int .i64], .list 139 [.str, .int .i64]]), (5, [.list 70 [.str, .bool, .int .i64, .bool, .bool, .str, .str, .list 170 [.str, .str], .str, .int .i64, .list 170 [.str, .str], .str, .int .i64, .int .i64]]), (6, [.list 142 [.str, .str, .int .i64, .int .i64, .bool, .bool, .list 170 [.str, .str]]]), (7, [.list 108 [.int .i64, .int .i64, .int .i64, .str, .int .i64, .int .i64]])], [.int .i64, .int .i64, .list 68 [.int .i64, .str, .int .i64, .str, .str, .list 170 [.str, .str], .str, .str, .str, .list 170 [.str, .str], .str, .str, .list 170 [.str, .str], .int .i64, .list 170 [.str, .str], .str, .int .i64, .int .i64, .bool, .int .i64, .int .i64, .int .i64, .int .i64, .bool, .int .i64, .list 170 [.str, .str], .str, .list 158 [.int .i64, .int .i64, .list 170 [.str, .str], .str]], .list 137 [.int .i64, .int .i64, .list 173 [.str, .list 170 [.str, .str], .int .i64, .list 170 [.str, .str], .str, .int .i64, .int .i64, .bool], .int .i64], .list 139 [.str, .int .i64], .list 70 [.str, .bool, .int .i64, .bool, .bool, .str, .str, .list 170 [.str, .str], .str, .int .i64, .list 170 [.str, .str], .str, .int .i64, .int .i64], .list 142 [.str, .str, .int .i64, .int .i64, .bool, .bool, .list 170 [.str, .str]], .list 108 [.int .i64, .int .i64, .int .i64, .str, .int .i64, .int .i64]]⟩),
  (47, ⟨.st [(0, [.int .i64]), (1, [.int .i64]), (2, [.list 68 [.int .i64, .str, .int .i64, .str, .str, .list 170 [.str, .str], .str, .str, .str, .list 170 [.str, .str], .str, .str, .list 170 [.str, .str], .int .i64, .list 170 [.str, .str], .str, .int .i64, .int .i64, .bool, .int .i64, .int .i64, .int .i64, .int .i64, .bool, .int .i64, .list 170 [.str, .str], .str, .list 158 [.int .i64, .int .i64, .list 170 [.str, .str], .str]]]), (3, [.list 137 [.int .i64, .int .i64, .list 173 [.str, .list 170 [.str, .str], .int .i64, .list 170 [.str, .str], .str, .int .i64, .int .i64, .bool], .int .i64], .list 139 [.str, .int .i64]]), (5, [.list 70 [.str, .bool, .int .i64, .bool, .bool, .str, .str, .list 170 [.str, .str], .str, .int .i64, .list 170 [.str, .str], .str, .int .i64, .int .i64]]), (6, [.list 142 [.str, .str, .int .i64, .int .i64, .bool, .bool, .list 170 [.str, .str]]]), (7, [.list 108 [.int .i64, .int .i64, .int .i64, .str, .int .i64, .int .i64]])], [.int .i64, .int .i64, .list 68 [.int .i64, .str, .int .i64, .str, .str, .list 170 [.str, .str], .str, .str, .str, .list 170 [.str, .str], .str, .str, .list 170 [.str, .str], .int .i64, .list 170 [.str, .str], .str, .int .i64, .int .i64, .bool, .int .i64, .int .i64, .int .i64, .int .i64, .bool, .int .i64, .list 170 [.str, .str], .str, .list 158 [.int .i64, .int .i64, .list 170 [.str, .str], .str]], .list 137 [.int .i64, .int .i64, .list 173 [.str, .list 170 [.str, .str], .int .i64, .list 170 [.str, .str], .str, .int .i64, .int .i64, .bool], .int .i64], .list 139 [.str, .int .i64], .list 70 [.str, .bool, .int .i64, .bool, .bool, .str, .str, .list 170 [.str, .str], .str, .int .i64, .list 170 [.str, .str], .str, .int .i64, .int .i64], .list 142 [.str, .str, .int .i64, .int .i64, .bool, .bool, .list 170 [.str, .str]], .list 108 [.int .i64, .int .i64, .int .i64, .str, .int .i64, .int .i64]]⟩),
  (59, ⟨.sl 170 [.str, .str] 32, [.list 170 [.str, .str]]⟩),
  (60, ⟨.st [(0, [.str]), (1, [.str]), (2, [.list 170 [.str, .str]]), (3, [.str])], [.str, .str, .list 170 [.str, .str], .str]⟩),
  (61, ⟨.st [(0, [.str]), (1, [.str]), (2, [.list 170 [.str, .str]]), (3, [.str])], [.str, .str, .list 170 [.str, .str], .str]⟩),
  (62, ⟨.st [(0, [.int .i64]), (1, [.list 170 [.str, .str]]), (2, [.str])], [.int .i64, .list 170 [.str, .str], .str]⟩),
  (63, ⟨.st [(0, [.int .i64]), (1, [.list 170 [.str, .str]]), (2, [.str])], [.int .i64, .list 170 [.str, .str], .str]⟩),
  (64, ⟨.st [(0, [.str]), (1, [.list 170 [.str, .str]]), (2, [.int .i64, .list 170 [.str, .str], .str]), (5, [.int .i64]), (6, [.int .i64])], [.str, .list 170 [.str, .str], .int .i64, .list 170 [.str, .str], .str, .int .i64, .int .i64]⟩),
  (65, ⟨.st [(0, [.str]), (1, [.list 170 [.str, .str]]), (2, [.int .i64, .list 170 [.str, .str], .str]), (5, [.int .i64]), (6, [.int .i64])], [.str, .list 170 [.str, .str], .int .i64, .list 170 [.str, .str], .str, .int .i64, .int .i64]⟩),
  (66, ⟨.sl 158 [.int .i64, .int .i64, .list 170 [.str, .str], .str] 56, [.list 158 [.int .i64, .int .i64, .list 170 [.str, .str], .str]]⟩),
  (67, ⟨.st [(0, [.int .i64]), (1, [.str]), (2, [.int .i64]), (3, [.str, .str, .list 170 [.str, .str], .str]), (7, [.str, .str, .list 170 [.str, .str], .str]), (11, [.str, .list 170 [.str, .str], .int .i64, .list 170 [.str, .str], .str, .int .i64, .int .i64]), (18, [.bool]), (19, [.int .i64]), (20, [.int .i64]), (21, [.int .i64]), (22, [.int .i64]), (23, [.bool]), (24, [.int .i64, .list 170 [.str, .str], .str]), (27, [.list 158 [.int .i64, .int .i64, .list 170 [.str, .str], .str]])], [.int .i64, .str, .int .i64, .str, .str, .list 170 [.str, .str], .str, .str, .str, .list 170 [.str, .str], .str, .str, .list 170 [.str, .str], .int .i64, .list 170 [.str, .str], .str, .int .i64, .int .i64, .bool, .int .i64, .int .i64, .int .i64, .int .i64, .bool, .int .i64, .list 170 [.str, .str], .str, .list 158 [.int .i64, .int .i64, .list 170 [.str, .str], .str]]⟩),
  (68, ⟨.st [(0, [.int .i64]), (1, [.str]), (2, [.int .i64]), (3, [.str, .str, .list 170 [.str, .str], .str]), (7, [.str, .str, .list 170 [.str, .str], .str]), (11, [.str, .list 170 [.str, .str], .int .i64, .list 170 [.str, .str], .str, .int .i64, .int .i64]), (18, [.bool]), (19, [.int .i64]), (20, [.int .i64]), (21, [.int .i64]), (22, [.int .i64]), (23, [.bool]), (24, [.int .i64, .list 170 [.str, .str], .str]), (27, [.list 158 [.int .i64, .int .i64, .list 170 [.str, .str], .str]])], [.int .i64, .str, .int .i64, .str, .str, .list 170 [.str, .str], .str, .str, .str, .list 170 [.str, .str], .str, .str, .list 170 [.str, .str], .int .i64, .list 170 [.str, .str], .str, .int .i64, .int .i64, .bool, .int .i64, .int .i64, .int .i64, .int .i64, .bool, .int .i64, .list 170 [.str, .str], .str, .list 158 [.int .i64, .int .i64, .list 170 [.str, .str], .str]]⟩),
  (69, ⟨.st [(0, [.str]), (1, [.bool]), (2, [.int .i64]), (3, [.bool]), (4, [.bool]), (5, [.str, .str, .list 170 [.str, .str], .str]), (9, [.int .i64, .list 170 [.str, .str], .str]), (12, [.int .i64]), (13, [.int .i64])], [.str, .bool, .int .i64, .bool, .bool, .str, .str, .list 170 [.str, .str], .str, .int .i64, .list 170 [.str, .str], .str, .int .i64, .int .i64]⟩),
  (70, ⟨.st [(0, [.str]), (1, [.bool]), (2, [.int .i64]), (3, [.bool]), (4, [.bool]), (5, [.str, .str, .list 170 [.str, .str], .str]), (9, [.int .i64, .list 170 [.str, .str], .str]), (12, [.int .i64]), (13, [.int .i64])], [.str, .bool, .int .i64, .bool, .bool, .str, .str, .list 170 [.str, .str], .str, .int .i64, .list 170 [.str, .str], .str, .int .i64, .int .i64]⟩),
  (84, ⟨.sl 166 [.str, .str] 32, [.list 166 [.str, .str]]⟩),
  (85, ⟨.st [(0, [.str]), (1, [.str]), (2, [.list 166 [.str, .str]]), (3, [.str])], [.str, .str, .list 166 [.str, .str], .str]⟩),
  (86, ⟨.st [(0, [.str]), (1, [.str]), (2, [.list 166 [.str, .str]]), (3, [.str])], [.str, .str, .list 166 [.str, .str], .str]⟩),
  (87, ⟨.st [(0, [.int .i64]), (1, [.list 166 [.str, .str]]), (2, [.str])], [.int .i64, .list 166 [.str, .str], .str]⟩),
  (88, ⟨.st [(0, [.int .i64]), (1, [.list 166 [.str, .str]]), (2, [.str])], [.int .i64, .list 166 [.str, .str], .str]⟩),
  (89, ⟨.st [(0, [.str]), (1, [.list 166 [.str, .str]]), (2, [.int .i64, .list 166 [.str, .str], .str]), (5, [.int .i64]), (6, [.int .i64])], [.str, .list 166 [.str, .str], .int .i64, .list 166 [.str, .str], .str, .int .i64, .int .i64]⟩),
  (90, ⟨.st [(0, [.str]), (1, [.list 166 [.str, .str]]), (2, [.int .i64, .list 166 [.str, .str], .str]), (5, [.int .i64]), (6, [.int .i64])], [.str, .list 166 [.str, .str], .int .i64, .list 166 [.str, .str], .str, .int .i64, .int .i64]⟩),
  (91, ⟨.sl 154 [.int .i64, .int .i64, .list 166 [.str, .str], .str] 56, [.list 154 [.int .i64, .int .i64, .list 166 [.str, .str], .str]]⟩),
  (92, ⟨.st [(0, [.int .i64]), (1, [.str]), (2, [.int .i64]), (3, [.str, .str, .list 166 [.str, .str], .str]), (7, [.str, .str, .list 166 [.str, .str], .str]), (11, [.str, .list 166 [.str, .str], .int .i64, .list 166 [.str, .str], .str, .int .i64, .int .i64]), (18, [.bool]), (19, [.int .i64]), (20, [.int .i64]), (21, [.int .i64]), (22, [.int .i64]), (23, [.bool]), (24, [.int .i64, .list 166 [.str, .str], .str]), (27, [.list 154 [.int .i64, .int .i64, .list 166 [.str, .str], .str]])], [.int .i64, .str, .int .i64, .str, .str, .list 166 [.str, .str], .str, .str, .str, .list 166 [.str, .str], .str, .str, .list 166 [.str, .str], .int .i64, .list 166 [.str, .str], .str, .int .i64, .int .i64, .bool, .int .i64, .int .i64, .int .i64, .int .i64, .bool, .int .i64, .list 166 [.str, .str], .str, .list 154 [.int .i64, .int .i64, .list 166 [.str, .str], .str]]⟩),
  (93, ⟨.st [(0, [.int .i64]), (1, [.str]), (2, [.int .i64]), (3, [.str, .str, .list 166 [.str, .str], .str]), (7, [.str, .str, .list 166 [.str, .str], .str]), (11, [.str, .list 166 [.str, .str], .int .i64, .list 166 [.str, .str], .str, .int .i64, .int .i64]), (18, [.bool]), (19, [.int .i64]), (20, [.int .i64]), (21, [.int .i64]), (22, [.int .i64]), (23, [.bool]), (24, [.int .i64, .list 166 [.str, .str], .str]), (27, [.list 154 [.int .i64, .int .i64, .list 166 [.str, .str], .str]])], [.int .i64, .str, .int .i64, .str, .str, .list 166 [.str, .str], .str, .str, .str, .list 166 [.str, .str], .str, .str, .list 166 [.str, .str], .int .i64, .list 166 [.str, .str], .str, .int .i64, .int .i64, .bool, .int .i64, .int .i64, .int .i64, .int .i64, .bool, .int .i64, .list 166 [.str, .str], .str, .list 154 [.int .i64, .int .i64, .list 166 [.str, .str], .str]]⟩),
  (97, ⟨.st [(0, [.str]), (1, [.bool]), (2, [.int .i64]), (3, [.bool]), (4, [.bool]), (5, [.str, .str, .list 166 [.str, .str], .str]), (9, [.int .i64, .list 166 [.str, .str], .str]), (12, [.int .i64]), (13, [.int .i64])], [.str, .bool, .int .i64, .bool, .bool, .str, .str, .list 166 [.str, .str], .str, .int .i64, .list 166 [.str, .str], .str, .int .i64, .int .i64]⟩),
  (98, ⟨.st [(0, [.str]), (1, [.bool]), (2, [.int .i64]), (3, [.bool]), (4, [.bool]), (5, [.str, .str, .list 166 [.str, .str], .str]), (9, [.int .i64, .list 166 [.str, .str], .str]), (12, [.int .i64]), (13, [.int .i64])], [.str, .bool, .int .i64, .bool, .bool, .str, .str, .list 166 [.str, .str], .str, .int .i64, .list 166 [.str, .str], .str, .int .i64, .int .i64]⟩),
  (101, ⟨.st [(0, [.int .i64]), (1, [.int .i64]), (2, [.int .i64]), (3, [.str]), (4, [.int .i64]), (5, [.int .i64])], [.int .i64, .int .i64, .int .i64, .str, .int .i64, .int .i64]⟩),
  (102, ⟨.st [(0, [.int .i64]), (1, [.int .i64]), (2, [.int .i64]), (3, [.str]), (4, [.int .i64]), (5, [.int .i64])], [.int .i64, .int .i64, .int .i64, .str, .int .i64, .int .i64]⟩),
  (108, ⟨.st [(0, [.int .i64]), (1, [.int .i64]), (2, [.int .i64]), (3, [.str]), (4, [.int .i64]), (5, [.int .i64])], [.int .i64, .int .i64, .int .i64, .str, .int .i64, .int .i64]⟩),
  (122, ⟨.sl 169 [.str, .list 166 [.str, .str], .int .i64, .list 166 [.str, .str], .str, .int .i64, .int .i64, .bool] 112, [.list 169 [.str, .list 166 [.str, .str], .int .i64, .list 166 [.str, .str], .str, .int .i64, .int .i64, .bool]]⟩),
  (123, ⟨.st [(0, [.int .i64]), (1, [.int .i64]), (2, [.list 169 [.str, .list 166 [.str, .str], .int .i64, .list 166 [.str, .str], .str, .int .i64, .int .i64, .bool]]), (3, [.int .i64])], [.int .i64, .int .i64, .list 169 [.str, .list 166 [.str, .str], .int .i64, .list 166 [.str, .str], .str, .int .i64, .int .i64, .bool], .int .i64]⟩),
  (124, ⟨.st [(0, [.int .i64]), (1, [.int .i64]), (2, [.list 169 [.str, .list 166 [.str, .str], .int .i64, .list 166 [.str, .str], .str, .int .i64, .int .i64, .bool]]), (3, [.int .i64])], [.int .i64, .int .i64, .list 169 [.str, .list 166 [.str, .str], .int .i64, .list 166 [.str, .str], .str, .int .i64, .int .i64, .bool], .int .i64]⟩),
  (126, ⟨.st [(0, [.str]), (1, [.int .i64])], [.str, .int .i64]⟩),
  (127, ⟨.st [(0, [.str]), (1, [.int .i64])], [.str, .int .i64]⟩),
  (129, ⟨.st [(0, [.str]), (1, [.str]), (2, [.int .i64]), (3, [.int .i64]), (4, [.bool]), (5, [.bool]), (6, [.list 166 [.str, .str]])], [.str, .str, .int .i64, .int .i64, .bool, .bool, .list 166 [.str, .str]]⟩),
  (130, ⟨.st [(0, [.str]), (1, [.str]), (2, [.int .i64]), (3, [.int .i64]), (4, [.bool]), (5, [.bool]), (6, [.list 166 [.str, .str]])], [.str, .str, .int .i64, .int .i64, .bool, .bool, .list 166 [.str, .str]]⟩),
  (135, ⟨.sl 173 [.str, .list 170 [.str, .str], .int .i64, .list 170 [.str, .str], .str, .int .i64, .int .i64, .bool] 112, [.list 173 [.str, .list 170 [.str, .str], .int .i64, .list 170 [.str, .str], .str, .int .i64, .int .i64, .bool]]⟩),
  (136, ⟨.st [(0, [.int .i64]), (1, [.int .i64]), (2, [.list 173 [.str, .list 170 [.str, .str], .int .i64, .list 170 [.str, .str], .str, .int .i64, .int .i64, .bool]]), (3, [.int .i64])], [.int .i64, .int .i64, .list 173 [.str, .list 170 [.str, .str], .int .i64, .list 170 [.str, .str], .str, .int .i64, .int .i64, .bool], .int .i64]⟩),
  (137, ⟨.st [(0, [.int .i64]), (1, [.int .i64]), (2, [.list 173 [.str, .list 170 [.str, .str], .int .i64, .list 170 [.str, .str], .str, .int .i64, .int .i64, .bool]]), (3, [.int .i64])], [.int .i64, .int .i64, .list 173 [.str, .list 170 [.str, .str], .int .i64, .list 170 [.str, .str], .str, .int .i64, .int .i64, .bool], .int .i64]⟩),
  (139, ⟨.st [(0, [.str]), (1, [.int .i64])], [.str, .int .i64]⟩),
  (141, ⟨.st [(0, [.str]), (1, [.str]), (2, [.int .i64]), (3, [.int .i64]), (4, [.bool]), (5, [.bool]), (6, [.list 170 [.str, .str]])], [.str, .str, .int .i64, .int .i64, .bool, .bool, .list 170 [.str, .str]]⟩),
  (142, ⟨.st [(0, [.str]), (1, [.str]), (2, [.int .i64]), (3, [.int .i64]), (4, [.bool]), (5, [.bool]), (6, [.list 170 [.str, .str]])], [.str, .str, .int .i64, .int .i64, .bool, .bool, .list 170 [.str, .str]]⟩),
  (153, ⟨.st [(0, [.int .i64]), (1, [.int .i64, .list 166 [.str, .str], .str])], [.int .i64, .int .i64, .list 166 [.str, .str], .str]⟩),
  (154, ⟨.st [(0, [.int .i64]), (1, [.int .i64, .list 166 [.str, .str], .str])], [.int .i64, .int .i64, .list 166 [.str, .str], .str]⟩),
  (157, ⟨.st [(0, [.int .i64]), (1, [.int .i64, .list 170 [.str, .str], .str])], [.int .i64, .int .i64, .list 170 [.str, .str], .str]⟩),
  (158, ⟨.st [(0, [.int .i64]), (1, [.int .i64, .list 170 [.str, .str], .str])], [.int .i64, .int .i64, .list 170 [.str, .str], .str]⟩),
  (165, ⟨.st [(0, [.str]), (1, [.str])], [.str, .str]⟩),
  (166, ⟨.st [(0, [.str]), (1, [.str])], [.str, .str]⟩),
  (168, ⟨.st [(0, [.str, .list 166 [.str, .str], .int .i64, .list 166 [.str, .str], .str, .int .i64, .int .i64]), (7, [.bool])], [.str, .list 166 [.str, .str], .int .i64, .list 166 [.str, .str], .str, .int .i64, .int .i64, .bool]⟩),
  (169, ⟨.st [(0, [.str, .list 166 [.str, .str], .int .i64, .list 166 [.str, .str], .str, .int .i64, .int .i64]), (7, [.bool])], [.str, .list 166 [.str, .str], .int .i64, .list 166 [.str, .str], .str, .int .i64, .int .i64, .bool]⟩),
  (170, ⟨.st [(0, [.str]), (1, [.str])], [.str, .str]⟩),
  (172, ⟨.st [(0, [.str, .list 170 [.str, .str], .int .i64, .list 170 [.str, .str], .str, .int .i64, .int .i64]), (7, [.bool])], [.str, .list 170 [.str, .str], .int .i64, .list 170 [.str, .str], .str, .int .i64, .int .i64, .bool]⟩),
  (173, ⟨.st [(0, [.str, .list 170 [.str, .str], .int .i64, .list 170 [.str, .str], .str, .int .i64, .int .i64]), (7, [.bool])], [.str, .list 170 [.str, .str], .int .i64, .list 170 [.str, .str], .str, .int .i64, .int .i64, .bool]⟩),
  (184, ⟨.sc, [.int .u32]⟩),
  (185, ⟨.sc, [.int .u8]⟩),
  (186, ⟨.sc, [.int .u8]⟩),
  (189, ⟨.sc, [.int .i32]⟩),
  (190, ⟨.sc, [.int .i32]⟩)]
theorem ttOk : ttB Try.prog tt = true := by kernel_rfl
theorem mixOk : Try.prog.follows .mixedOrders = true := by kernel_rfl
def J (_ : World) : Prop := True
theorem J_below {w w' : World} (h : J w) (_ : Below w.heap.size w w') : J w' := trivial
def E80 : Env := { tt, eqs := [], cts := [] }
theorem ok80 : EnvOk Try.prog E80 := ⟨ttOk, by kernel_rfl, rfl, mixOk⟩
theorem cs80 (w0 : World) (hJ : J w0) : EnvCts Try.prog E80 w0 := by
  intro c hc
  cases hc
def ct80 : Ct := { f := 80, ps := [.v true .ro ls166, .v false .ro [.int .i64]], rs := [(false, [.int .i64])], shared := false, pre := fun (q : Fld × Int) => pSz q.1 q.2, F := fun (q : Fld × Int) => szF q.1 q.2 }
def st80 : List (SzStep Fld) := [.str (fun x : Fld => x.1), .str (fun x : Fld => x.2)]
theorem c80 (x : Fld) : szSum x st80 = cz x := by
  simp only [szSum, st80, cz_pair, cz_int, cz_bool, cz_str]
  all_goals omega
theorem w80 (x : Fld) (h : wd x) : szFine x st80 := by
  first | simp only [wd_pair] at h | skip
  simp only [szFine, st80, wd_pair, wf_wd]
  simp only [h, and_self]
theorem law80 : ∀ q : Fld × Int, pSz q.1 q.2 → szSt q.1 st80 q.2 (fun r => r = szF q.1 q.2) := fun q hq => szSt_holds q.1 st80 q.2 _ (w80 q.1 hq.1) hq.2.1 hq.2.2 (c80 q.1)
theorem all80 (w : World) (hJ : J w) : CtAt Try.prog ct80 w :=
  ct_by ok80 (cs80 w hJ) Try.func80 (by kernel_rfl) (H := (hint [])) law80 (by kernel_rfl)
def E71 : Env := { tt, eqs := [], cts := [ct80] }
theorem ok71 : EnvOk Try.prog E71 := ⟨ttOk, by kernel_rfl, rfl, mixOk⟩
theorem cs71 (w0 : World) (hJ : J w0) : EnvCts Try.prog E71 w0 := by
  intro c hc
  rcases List.mem_cons.1 hc with rfl | hc
  · exact fun w hb => all80 w (J_below hJ hb)
  cases hc
def ct71 : Ct := { f := 71, ps := [.v false .ro ls84, .v false .ro [.int .i64]], rs := [(false, [.int .i64])], shared := false, pre := fun (q : (List Fld) × Int) => pSz q.1 q.2, F := fun (q : (List Fld) × Int) => szF q.1 q.2 }
theorem law71 : ∀ q : (List Fld) × Int, pSz q.1 q.2 → szS (α := Fld) Dft.dft (fun y k => pSz y k) (fun y k => szF y k) q.1 q.2 (fun r => r = szF q.1 q.2) := fun q hq => szS_holds (α := Fld) Dft.dft cz wd q.1 q.2 hq.1.1 hq.1.2 hq.2.1 hq.2.2
theorem all71 (w : World) (hJ : J w) : CtAt Try.prog ct71 w :=
  ct_by ok71 (cs71 w hJ) Try.func71 (by kernel_rfl) (H := (hint [(5, [.val 1 (.int .i64), .val 5 (.int .i64)])])) law71 (by kernel_rfl)
def E50 : Env := { tt, eqs := [], cts := [ct71] }
theorem ok50 : EnvOk Try.prog E50 := ⟨ttOk, by kernel_rfl, rfl, mixOk⟩
theorem cs50 (w0 : World) (hJ : J w0) : EnvCts Try.prog E50 w0 := by
  intro c hc
  rcases List.mem_cons.1 hc with rfl | hc
  · exact fun w hb => all71 w (J_below hJ hb)
  cases hc
def ct50 : Ct := { f := 50, ps := [.v true .ro ls86, .v false .ro [.int .i64]], rs := [(false, [.int .i64])], shared := false, pre := fun (q : Req × Int) => pSz q.1 q.2, F := fun (q : Req × Int) => szF q.1 q.2 }
def st50 : List (SzStep Req) := [.str (fun x : Req => x.1), .str (fun x : Req => x.2.1), .call (fun x : Req => wd (x.2.2.1 : (List Fld))) (fun x : Req => cz (x.2.2.1 : (List Fld))), .str (fun x : Req => x.2.2.2)]
theorem c50 (x : Req) : szSum x st50 = cz x := by
  simp only [szSum, st50, cz_pair, cz_int, cz_bool, cz_str]
  all_goals omega
theorem w50 (x : Req) (h : wd x) : szFine x st50 := by
  first | simp only [wd_pair] at h | skip
  simp only [szFine, st50, wd_pair, wf_wd]
  simp only [h, and_self]
theorem law50 : ∀ q : Req × Int, pSz q.1 q.2 → szSt q.1 st50 q.2 (fun r => r = szF q.1 q.2) := fun q hq => szSt_holds q.1 st50 q.2 _ (w50 q.1 hq.1) hq.2.1 hq.2.2 (c50 q.1)
theorem all50 (w : World) (hJ : J w) : CtAt Try.prog ct50 w :=
  ct_by ok50 (cs50 w hJ) Try.func50 (by kernel_rfl) (H := (hint [])) law50 (by kernel_rfl)
def E52 : Env := { tt, eqs := [], cts := [ct71] }
theorem ok52 : EnvOk Try.prog E52 := ⟨ttOk, by kernel_rfl, rfl, mixOk⟩
theorem cs52 (w0 : World) (hJ : J w0) : EnvCts Try.prog E52 w0 := by
  intro c hc
  rcases List.mem_cons.1 hc with rfl | hc
  · exact fun w hb => all71 w (J_below hJ hb)
  cases hc
def ct52 : Ct := { f := 52, ps := [.v true .ro ls88, .v false .ro [.int .i64]], rs := [(false, [.int .i64])], shared := false, pre := fun (q : Rsp × Int) => pSz q.1 q.2, F := fun (q : Rsp × Int) => szF q.1 q.2 }
def st52 : List (SzStep Rsp) := [.call (fun x : Rsp => wd (x.2.1 : (List Fld))) (fun x : Rsp => cz (x.2.1 : (List Fld))), .str (fun x : Rsp => x.2.2)]
theorem c52 (x : Rsp) : szSum x st52 = cz x := by
  simp only [szSum, st52, cz_pair, cz_int, cz_bool, cz_str]
  all_goals omega
theorem w52 (x : Rsp) (h : wd x) : szFine x st52 := by
  first | simp only [wd_pair] at h | skip
  simp only [szFine, st52, wd_pair, wf_wd]
  simp only [h, and_self]
theorem law52 : ∀ q : Rsp × Int, pSz q.1 q.2 → szSt q.1 st52 q.2 (fun r => r = szF q.1 q.2) := fun q hq => szSt_holds q.1 st52 q.2 _ (w52 q.1 hq.1) hq.2.1 hq.2.2 (c52 q.1)
theorem all52 (w : World) (hJ : J w) : CtAt Try.prog ct52 w :=
  ct_by ok52 (cs52 w hJ) Try.func52 (by kernel_rfl) (H := (hint [])) law52 (by kernel_rfl)
def E51 : Env := { tt, eqs := [], cts := [ct71, ct52] }
theorem ok51 : EnvOk Try.prog E51 := ⟨ttOk, by kernel_rfl, rfl, mixOk⟩
theorem cs51 (w0 : World) (hJ : J w0) : EnvCts Try.prog E51 w0 := by
  intro c hc
  rcases List.mem_cons.1 hc with rfl | hc
  · exact fun w hb => all71 w (J_below hJ hb)
  rcases List.mem_cons.1 hc with rfl | hc
  · exact fun w hb => all52 w (J_below hJ hb)
  cases hc
def ct51 : Ct := { f := 51, ps := [.v true .ro ls90, .v false .ro [.int .i64]], rs := [(false, [.int .i64])], shared := false, pre := fun (q : Sto × Int) => pSz q.1 q.2, F := fun (q : Sto × Int) => szF q.1 q.2 }
def st51 : List (SzStep Sto) := [.str (fun x : Sto => x.1), .call (fun x : Sto => wd (x.2.1 : (List Fld))) (fun x : Sto => cz (x.2.1 : (List Fld))), .call (fun x : Sto => wd ((x.2.2.1, x.2.2.2.1, x.2.2.2.2.1) : Rsp)) (fun x : Sto => cz ((x.2.2.1, x.2.2.2.1, x.2.2.2.2.1) : Rsp))]
theorem c51 (x : Sto) : szSum x st51 = cz x := by
  simp only [szSum, st51, cz_pair, cz_int, cz_bool, cz_str]
  all_goals omega
theorem w51 (x : Sto) (h : wd x) : szFine x st51 := by
  first | simp only [wd_pair] at h | skip
  simp only [szFine, st51, wd_pair, wf_wd]
  simp only [h, and_self]
theorem law51 : ∀ q : Sto × Int, pSz q.1 q.2 → szSt q.1 st51 q.2 (fun r => r = szF q.1 q.2) := fun q hq => szSt_holds q.1 st51 q.2 _ (w51 q.1 hq.1) hq.2.1 hq.2.2 (c51 q.1)
theorem all51 (w : World) (hJ : J w) : CtAt Try.prog ct51 w :=
  ct_by ok51 (cs51 w hJ) Try.func51 (by kernel_rfl) (H := (hint [])) law51 (by kernel_rfl)
def E72 : Env := { tt, eqs := [], cts := [ct52] }
theorem ok72 : EnvOk Try.prog E72 := ⟨ttOk, by kernel_rfl, rfl, mixOk⟩
theorem cs72 (w0 : World) (hJ : J w0) : EnvCts Try.prog E72 w0 := by
  intro c hc
  rcases List.mem_cons.1 hc with rfl | hc
  · exact fun w hb => all52 w (J_below hJ hb)
  cases hc
def ct72 : Ct := { f := 72, ps := [.v true .ro ls154, .v false .ro [.int .i64]], rs := [(false, [.int .i64])], shared := false, pre := fun (q : Tld × Int) => pSz q.1 q.2, F := fun (q : Tld × Int) => szF q.1 q.2 }
def st72 : List (SzStep Tld) := [.call (fun x : Tld => wd (x.2 : Rsp)) (fun x : Tld => cz (x.2 : Rsp))]
theorem c72 (x : Tld) : szSum x st72 = cz x := by
  simp only [szSum, st72, cz_pair, cz_int, cz_bool, cz_str]
  all_goals omega
theorem w72 (x : Tld) (h : wd x) : szFine x st72 := by
  first | simp only [wd_pair] at h | skip
  simp only [szFine, st72, wd_pair, wf_wd]
  simp only [h, and_self]
theorem law72 : ∀ q : Tld × Int, pSz q.1 q.2 → szSt q.1 st72 q.2 (fun r => r = szF q.1 q.2) := fun q hq => szSt_holds q.1 st72 q.2 _ (w72 q.1 hq.1) hq.2.1 hq.2.2 (c72 q.1)
theorem all72 (w : World) (hJ : J w) : CtAt Try.prog ct72 w :=
  ct_by ok72 (cs72 w hJ) Try.func72 (by kernel_rfl) (H := (hint [])) law72 (by kernel_rfl)
def E53 : Env := { tt, eqs := [], cts := [ct72] }
theorem ok53 : EnvOk Try.prog E53 := ⟨ttOk, by kernel_rfl, rfl, mixOk⟩
theorem cs53 (w0 : World) (hJ : J w0) : EnvCts Try.prog E53 w0 := by
  intro c hc
  rcases List.mem_cons.1 hc with rfl | hc
  · exact fun w hb => all72 w (J_below hJ hb)
  cases hc
def ct53 : Ct := { f := 53, ps := [.v false .ro ls91, .v false .ro [.int .i64]], rs := [(false, [.int .i64])], shared := false, pre := fun (q : (List Tld) × Int) => pSz q.1 q.2, F := fun (q : (List Tld) × Int) => szF q.1 q.2 }
theorem law53 : ∀ q : (List Tld) × Int, pSz q.1 q.2 → szS (α := Tld) Dft.dft (fun y k => pSz y k) (fun y k => szF y k) q.1 q.2 (fun r => r = szF q.1 q.2) := fun q hq => szS_holds (α := Tld) Dft.dft cz wd q.1 q.2 hq.1.1 hq.1.2 hq.2.1 hq.2.2
theorem all53 (w : World) (hJ : J w) : CtAt Try.prog ct53 w :=
  ct_by ok53 (cs53 w hJ) Try.func53 (by kernel_rfl) (H := (hint [(5, [.val 1 (.int .i64), .val 5 (.int .i64)])])) law53 (by kernel_rfl)
def E31 : Env := { tt, eqs := [], cts := [ct50, ct51, ct52, ct53] }
theorem ok31 : EnvOk Try.prog E31 := ⟨ttOk, by kernel_rfl, rfl, mixOk⟩
theorem cs31 (w0 : World) (hJ : J w0) : EnvCts Try.prog E31 w0 := by
  intro c hc
  rcases List.mem_cons.1 hc with rfl | hc
  · exact fun w hb => all50 w (J_below hJ hb)
  rcases List.mem_cons.1 hc with rfl | hc
  · exact fun w hb => all51 w (J_below hJ hb)
  rcases List.mem_cons.1 hc with rfl | hc
  · exact fun w hb => all52 w (J_below hJ hb)
  rcases List.mem_cons.1 hc with rfl | hc
  · exact fun w hb => all53 w (J_below hJ hb)
  cases hc
def ct31 : Ct := { f := 31, ps := [.v true .ro ls93, .v false .ro [.int .i64]], rs := [(false, [.int .i64])], shared := false, pre := fun (q : Cnn × Int) => pSz q.1 q.2, F := fun (q : Cnn × Int) => szF q.1 q.2 }
def st31 : List (SzStep Cnn) := [.str (fun x : Cnn => x.2.1), .call (fun x : Cnn => wd ((x.2.2.2.1, x.2.2.2.2.1, x.2.2.2.2.2.1, x.2.2.2.2.2.2.1) : Req)) (fun x : Cnn => cz ((x.2.2.2.1, x.2.2.2.2.1, x.2.2.2.2.2.1, x.2.2.2.2.2.2.1) : Req)), .call (fun x : Cnn => wd ((x.2.2.2.2.2.2.2.1, x.2.2.2.2.2.2.2.2.1, x.2.2.2.2.2.2.2.2.2.1, x.2.2.2.2.2.2.2.2.2.2.1) : Req)) (fun x : Cnn => cz ((x.2.2.2.2.2.2.2.1, x.2.2.2.2.2.2.2.2.1, x.2.2.2.2.2.2.2.2.2.1, x.2.2.2.2.2.2.2.2.2.2.1) : Req)), .call (fun x : Cnn => wd ((x.2.2.2.2.2.2.2.2.2.2.2.1, x.2.2.2.2.2.2.2.2.2.2.2.2.1, x.2.2.2.2.2.2.2.2.2.2.2.2.2.1, x.2.2.2.2.2.2.2.2.2.2.2.2.2.2.1, x.2.2.2.2.2.2.2.2.2.2.2.2.2.2.2.1, x.2.2.2.2.2.2.2.2.2.2.2.2.2.2.2.2.1, x.2.2.2.2.2.2.2.2.2.2.2.2.2.2.2.2.2.1) : Sto)) (fun x : Cnn => cz ((x.2.2.2.2.2.2.2.2.2.2.2.1, x.2.2.2.2.2.2.2.2.2.2.2.2.1, x.2.2.2.2.2.2.2.2.2.2.2.2.2.1, x.2.2.2.2.2.2.2.2.2.2.2.2.2.2.1, x.2.2.2.2.2.2.2.2.2.2.2.2.2.2.2.1, x.2.2.2.2.2.2.2.2.2.2.2.2.2.2.2.2.1, x.2.2.2.2.2.2.2.2.2.2.2.2.2.2.2.2.2.1) : Sto)), .call (fun x : Cnn => wd ((x.2.2.2.2.2.2.2.2.2.2.2.2.2.2.2.2.2.2.2.2.2.2.2.2.1, x.2.2.2.2.2.2.2.2.2.2.2.2.2.2.2.2.2.2.2.2.2.2.2.2.2.1, x.2.2.2.2.2.2.2.2.2.2.2.2.2.2.2.2.2.2.2.2.2.2.2.2.2.2.1) : Rsp)) (fun x : Cnn => cz ((x.2.2.2.2.2.2.2.2.2.2.2.2.2.2.2.2.2.2.2.2.2.2.2.2.1, x.2.2.2.2.2.2.2.2.2.2.2.2.2.2.2.2.2.2.2.2.2.2.2.2.2.1, x.2.2.2.2.2.2.2.2.2.2.2.2.2.2.2.2.2.2.2.2.2.2.2.2.2.2.1) : Rsp)), .call (fun x : Cnn => wd (x.2.2.2.2.2.2.2.2.2.2.2.2.2.2.2.2.2.2.2.2.2.2.2.2.2.2.2 : (List Tld))) (fun x : Cnn => cz (x.2.2.2.2.2.2.2.2.2.2.2.2.2.2.2.2.2.2.2.2.2.2.2.2.2.2.2 : (List Tld)))]
theorem c31 (x : Cnn) : szSum x st31 = cz x := by
  simp only [szSum, st31, cz_pair, cz_int, cz_bool, cz_str]
  all_goals omega
theorem w31 (x : Cnn) (h : wd x) : szFine x st31 := by
  first | simp only [wd_pair] at h | skip
  simp only [szFine, st31, wd_pair, wf_wd]
  simp only [h, and_self]
theorem law31 : ∀ q : Cnn × Int, pSz q.1 q.2 → szSt q.1 st31 q.2 (fun r => r = szF q.1 q.2) := fun q hq => szSt_holds q.1 st31 q.2 _ (w31 q.1 hq.1) hq.2.1 hq.2.2 (c31 q.1)
theorem all31 (w : World) (hJ : J w) : CtAt Try.prog ct31 w :=
  ct_by ok31 (cs31 w hJ) Try.func31 (by kernel_rfl) (H := (hint [])) law31 (by kernel_rfl)
def E12 : Env := { tt, eqs := [], cts := [ct31] }
theorem ok12 : EnvOk Try.prog E12 := ⟨ttOk, by kernel_rfl, rfl, mixOk⟩
theorem cs12 (w0 : World) (hJ : J w0) : EnvCts Try.prog E12 w0 := by
  intro c hc
  rcases List.mem_cons.1 hc with rfl | hc
  · exact fun w hb => all31 w (J_below hJ hb)
  cases hc
def ct12 : Ct := { f := 12, ps := [.v false .ro ls22, .v false .ro [.int .i64]], rs := [(false, [.int .i64])], shared := false, pre := fun (q : (List Cnn) × Int) => pSz q.1 q.2, F := fun (q : (List Cnn) × Int) => szF q.1 q.2 }
theorem law12 : ∀ q : (List Cnn) × Int, pSz q.1 q.2 → szS (α := Cnn) Dft.dft (fun y k => pSz y k) (fun y k => szF y k) q.1 q.2 (fun r => r = szF q.1 q.2) := fun q hq => szS_holds (α := Cnn) Dft.dft cz wd q.1 q.2 hq.1.1 hq.1.2 hq.2.1 hq.2.2
theorem all12 (w : World) (hJ : J w) : CtAt Try.prog ct12 w :=
  ct_by ok12 (cs12 w hJ) Try.func12 (by kernel_rfl) (H := (hint [(5, [.val 1 (.int .i64), .val 5 (.int .i64)])])) law12 (by kernel_rfl)
def E81 : Env := { tt, eqs := [], cts := [ct51] }
theorem ok81 : EnvOk Try.prog E81 := ⟨ttOk, by kernel_rfl, rfl, mixOk⟩
theorem cs81 (w0 : World) (hJ : J w0) : EnvCts Try.prog E81 w0 := by
  intro c hc
  rcases List.mem_cons.1 hc with rfl | hc
  · exact fun w hb => all51 w (J_below hJ hb)
  cases hc
def ct81 : Ct := { f := 81, ps := [.v true .ro ls169, .v false .ro [.int .i64]], rs := [(false, [.int .i64])], shared := false, pre := fun (q : Slt × Int) => pSz q.1 q.2, F := fun (q : Slt × Int) => szF q.1 q.2 }
def st81 : List (SzStep Slt) := [.call (fun x : Slt => wd ((x.1, x.2.1, x.2.2.1, x.2.2.2.1, x.2.2.2.2.1, x.2.2.2.2.2.1, x.2.2.2.2.2.2.1) : Sto)) (fun x : Slt => cz ((x.1, x.2.1, x.2.2.1, x.2.2.2.1, x.2.2.2.2.1, x.2.2.2.2.2.1, x.2.2.2.2.2.2.1) : Sto))]
theorem c81 (x : Slt) : szSum x st81 = cz x := by
  simp only [szSum, st81, cz_pair, cz_int, cz_bool, cz_str]
  all_goals omega
theorem w81 (x : Slt) (h : wd x) : szFine x st81 := by
  first | simp only [wd_pair] at h | skip
  simp only [szFine, st81, wd_pair, wf_wd]
  simp only [h, and_self]
theorem law81 : ∀ q : Slt × Int, pSz q.1 q.2 → szSt q.1 st81 q.2 (fun r => r = szF q.1 q.2) := fun q hq => szSt_holds q.1 st81 q.2 _ (w81 q.1 hq.1) hq.2.1 hq.2.2 (c81 q.1)
theorem all81 (w : World) (hJ : J w) : CtAt Try.prog ct81 w :=
  ct_by ok81 (cs81 w hJ) Try.func81 (by kernel_rfl) (H := (hint [])) law81 (by kernel_rfl)
def E73 : Env := { tt, eqs := [], cts := [ct81] }
theorem ok73 : EnvOk Try.prog E73 := ⟨ttOk, by kernel_rfl, rfl, mixOk⟩
theorem cs73 (w0 : World) (hJ : J w0) : EnvCts Try.prog E73 w0 := by
  intro c hc
  rcases List.mem_cons.1 hc with rfl | hc
  · exact fun w hb => all81 w (J_below hJ hb)
  cases hc
def ct73 : Ct := { f := 73, ps := [.v false .ro ls122, .v false .ro [.int .i64]], rs := [(false, [.int .i64])], shared := false, pre := fun (q : (List Slt) × Int) => pSz q.1 q.2, F := fun (q : (List Slt) × Int) => szF q.1 q.2 }
theorem law73 : ∀ q : (List Slt) × Int, pSz q.1 q.2 → szS (α := Slt) Dft.dft (fun y k => pSz y k) (fun y k => szF y k) q.1 q.2 (fun r => r = szF q.1 q.2) := fun q hq => szS_holds (α := Slt) Dft.dft cz wd q.1 q.2 hq.1.1 hq.1.2 hq.2.1 hq.2.2
theorem all73 (w : World) (hJ : J w) : CtAt Try.prog ct73 w :=
  ct_by ok73 (cs73 w hJ) Try.func73 (by kernel_rfl) (H := (hint [(5, [.val 1 (.int .i64), .val 5 (.int .i64)])])) law73 (by kernel_rfl)
def E54 : Env := { tt, eqs := [], cts := [ct73] }
theorem ok54 : EnvOk Try.prog E54 := ⟨ttOk, by kernel_rfl, rfl, mixOk⟩
theorem cs54 (w0 : World) (hJ : J w0) : EnvCts Try.prog E54 w0 := by
  intro c hc
  rcases List.mem_cons.1 hc with rfl | hc
  · exact fun w hb => all73 w (J_below hJ hb)
  cases hc
def ct54 : Ct := { f := 54, ps := [.v true .ro ls124, .v false .ro [.int .i64]], rs := [(false, [.int .i64])], shared := false, pre := fun (q : Shd × Int) => pSz q.1 q.2, F := fun (q : Shd × Int) => szF q.1 q.2 }
def st54 : List (SzStep Shd) := [.call (fun x : Shd => wd (x.2.2.1 : (List Slt))) (fun x : Shd => cz (x.2.2.1 : (List Slt)))]
theorem c54 (x : Shd) : szSum x st54 = cz x := by
  simp only [szSum, st54, cz_pair, cz_int, cz_bool, cz_str]
  all_goals omega
theorem w54 (x : Shd) (h : wd x) : szFine x st54 := by
  first | simp only [wd_pair] at h | skip
  simp only [szFine, st54, wd_pair, wf_wd]
  simp only [h, and_self]
theorem law54 : ∀ q : Shd × Int, pSz q.1 q.2 → szSt q.1 st54 q.2 (fun r => r = szF q.1 q.2) := fun q hq => szSt_holds q.1 st54 q.2 _ (w54 q.1 hq.1) hq.2.1 hq.2.2 (c54 q.1)
theorem all54 (w : World) (hJ : J w) : CtAt Try.prog ct54 w :=
  ct_by ok54 (cs54 w hJ) Try.func54 (by kernel_rfl) (H := (hint [])) law54 (by kernel_rfl)
def E32 : Env := { tt, eqs := [], cts := [ct54] }
theorem ok32 : EnvOk Try.prog E32 := ⟨ttOk, by kernel_rfl, rfl, mixOk⟩
theorem cs32 (w0 : World) (hJ : J w0) : EnvCts Try.prog E32 w0 := by
  intro c hc
  rcases List.mem_cons.1 hc with rfl | hc
  · exact fun w hb => all54 w (J_below hJ hb)
  cases hc
def ct32 : Ct := { f := 32, ps := [.v false .ro ls23, .v false .ro [.int .i64]], rs := [(false, [.int .i64])], shared := false, pre := fun (q : (List Shd) × Int) => pSz q.1 q.2, F := fun (q : (List Shd) × Int) => szF q.1 q.2 }
theorem law32 : ∀ q : (List Shd) × Int, pSz q.1 q.2 → szS (α := Shd) Dft.dft (fun y k => pSz y k) (fun y k => szF y k) q.1 q.2 (fun r => r = szF q.1 q.2) := fun q hq => szS_holds (α := Shd) Dft.dft cz wd q.1 q.2 hq.1.1 hq.1.2 hq.2.1 hq.2.2
theorem all32 (w : World) (hJ : J w) : CtAt Try.prog ct32 w :=
  ct_by ok32 (cs32 w hJ) Try.func32 (by kernel_rfl) (H := (hint [(5, [.val 1 (.int .i64), .val 5 (.int .i64)])])) law32 (by kernel_rfl)
def E55 : Env := { tt, eqs := [], cts := [] }
theorem ok55 : EnvOk Try.prog E55 := ⟨ttOk, by kernel_rfl, rfl, mixOk⟩
theorem cs55 (w0 : World) (hJ : J w0) : EnvCts Try.prog E55 w0 := by
  intro c hc
  cases hc
def ct55 : Ct := { f := 55, ps := [.v true .ro ls127, .v false .ro [.int .i64]], rs := [(false, [.int .i64])], shared := false, pre := fun (q : Gen × Int) => pSz q.1 q.2, F := fun (q : Gen × Int) => szF q.1 q.2 }
def st55 : List (SzStep Gen) := [.str (fun x : Gen => x.1)]
theorem c55 (x : Gen) : szSum x st55 = cz x := by
  simp only [szSum, st55, cz_pair, cz_int, cz_bool, cz_str]
  all_goals omega
theorem w55 (x : Gen) (h : wd x) : szFine x st55 := by
  first | simp only [wd_pair] at h | skip
  simp only [szFine, st55, wd_pair, wf_wd]
  simp only [h, and_self]
theorem law55 : ∀ q : Gen × Int, pSz q.1 q.2 → szSt q.1 st55 q.2 (fun r => r = szF q.1 q.2) := fun q hq => szSt_holds q.1 st55 q.2 _ (w55 q.1 hq.1) hq.2.1 hq.2.2 (c55 q.1)
theorem all55 (w : World) (hJ : J w) : CtAt Try.prog ct55 w :=
  ct_by ok55 (cs55 w hJ) Try.func55 (by kernel_rfl) (H := (hint [])) law55 (by kernel_rfl)
def E33 : Env := { tt, eqs := [], cts := [ct55] }
theorem ok33 : EnvOk Try.prog E33 := ⟨ttOk, by kernel_rfl, rfl, mixOk⟩
theorem cs33 (w0 : World) (hJ : J w0) : EnvCts Try.prog E33 w0 := by
  intro c hc
  rcases List.mem_cons.1 hc with rfl | hc
  · exact fun w hb => all55 w (J_below hJ hb)
  cases hc
def ct33 : Ct := { f := 33, ps := [.v false .ro ls24, .v false .ro [.int .i64]], rs := [(false, [.int .i64])], shared := false, pre := fun (q : (List Gen) × Int) => pSz q.1 q.2, F := fun (q : (List Gen) × Int) => szF q.1 q.2 }
theorem law33 : ∀ q : (List Gen) × Int, pSz q.1 q.2 → szS (α := Gen) Dft.dft (fun y k => pSz y k) (fun y k => szF y k) q.1 q.2 (fun r => r = szF q.1 q.2) := fun q hq => szS_holds (α := Gen) Dft.dft cz wd q.1 q.2 hq.1.1 hq.1.2 hq.2.1 hq.2.2
theorem all33 (w : World) (hJ : J w) : CtAt Try.prog ct33 w :=
  ct_by ok33 (cs33 w hJ) Try.func33 (by kernel_rfl) (H := (hint [(5, [.val 1 (.int .i64), .val 5 (.int .i64)])])) law33 (by kernel_rfl)
def E13 : Env := { tt, eqs := [], cts := [ct32, ct33] }
theorem ok13 : EnvOk Try.prog E13 := ⟨ttOk, by kernel_rfl, rfl, mixOk⟩
theorem cs13 (w0 : World) (hJ : J w0) : EnvCts Try.prog E13 w0 := by
  intro c hc
  rcases List.mem_cons.1 hc with rfl | hc
  · exact fun w hb => all32 w (J_below hJ hb)
  rcases List.mem_cons.1 hc with rfl | hc
  · exact fun w hb => all33 w (J_below hJ hb)
  cases hc
def ct13 : Ct := { f := 13, ps := [.v true .ro ls26, .v false .ro [.int .i64]], rs := [(false, [.int .i64])], shared := false, pre := fun (q : Cch × Int) => pSz q.1 q.2, F := fun (q : Cch × Int) => szF q.1 q.2 }
def st13 : List (SzStep Cch) := [.call (fun x : Cch => wd (x.1 : (List Shd))) (fun x : Cch => cz (x.1 : (List Shd))), .call (fun x : Cch => wd (x.2 : (List Gen))) (fun x : Cch => cz (x.2 : (List Gen)))]
theorem c13 (x : Cch) : szSum x st13 = cz x := by
  simp only [szSum, st13, cz_pair, cz_int, cz_bool, cz_str]
  all_goals omega
theorem w13 (x : Cch) (h : wd x) : szFine x st13 := by
  first | simp only [wd_pair] at h | skip
  simp only [szFine, st13, wd_pair, wf_wd]
  simp only [h, and_self]
theorem law13 : ∀ q : Cch × Int, pSz q.1 q.2 → szSt q.1 st13 q.2 (fun r => r = szF q.1 q.2) := fun q hq => szSt_holds q.1 st13 q.2 _ (w13 q.1 hq.1) hq.2.1 hq.2.2 (c13 q.1)
theorem all13 (w : World) (hJ : J w) : CtAt Try.prog ct13 w :=
  ct_by ok13 (cs13 w hJ) Try.func13 (by kernel_rfl) (H := (hint [])) law13 (by kernel_rfl)
def E34 : Env := { tt, eqs := [], cts := [ct50, ct52] }
theorem ok34 : EnvOk Try.prog E34 := ⟨ttOk, by kernel_rfl, rfl, mixOk⟩
theorem cs34 (w0 : World) (hJ : J w0) : EnvCts Try.prog E34 w0 := by
  intro c hc
  rcases List.mem_cons.1 hc with rfl | hc
  · exact fun w hb => all50 w (J_below hJ hb)
  rcases List.mem_cons.1 hc with rfl | hc
  · exact fun w hb => all52 w (J_below hJ hb)
  cases hc
def ct34 : Ct := { f := 34, ps := [.v true .ro ls98, .v false .ro [.int .i64]], rs := [(false, [.int .i64])], shared := false, pre := fun (q : Flt × Int) => pSz q.1 q.2, F := fun (q : Flt × Int) => szF q.1 q.2 }
def st34 : List (SzStep Flt) := [.str (fun x : Flt => x.1), .call (fun x : Flt => wd ((x.2.2.2.2.2.1, x.2.2.2.2.2.2.1, x.2.2.2.2.2.2.2.1, x.2.2.2.2.2.2.2.2.1) : Req)) (fun x : Flt => cz ((x.2.2.2.2.2.1, x.2.2.2.2.2.2.1, x.2.2.2.2.2.2.2.1, x.2.2.2.2.2.2.2.2.1) : Req)), .call (fun x : Flt => wd ((x.2.2.2.2.2.2.2.2.2.1, x.2.2.2.2.2.2.2.2.2.2.1, x.2.2.2.2.2.2.2.2.2.2.2.1) : Rsp)) (fun x : Flt => cz ((x.2.2.2.2.2.2.2.2.2.1, x.2.2.2.2.2.2.2.2.2.2.1, x.2.2.2.2.2.2.2.2.2.2.2.1) : Rsp))]
theorem c34 (x : Flt) : szSum x st34 = cz x := by
  simp only [szSum, st34, cz_pair, cz_int, cz_bool, cz_str]
  all_goals omega
theorem w34 (x : Flt) (h : wd x) : szFine x st34 := by
  first | simp only [wd_pair] at h | skip
  simp only [szFine, st34, wd_pair, wf_wd]
  simp only [h, and_self]
theorem law34 : ∀ q : Flt × Int, pSz q.1 q.2 → szSt q.1 st34 q.2 (fun r => r = szF q.1 q.2) := fun q hq => szSt_holds q.1 st34 q.2 _ (w34 q.1 hq.1) hq.2.1 hq.2.2 (c34 q.1)
theorem all34 (w : World) (hJ : J w) : CtAt Try.prog ct34 w :=
  ct_by ok34 (cs34 w hJ) Try.func34 (by kernel_rfl) (H := (hint [])) law34 (by kernel_rfl)
def E14 : Env := { tt, eqs := [], cts := [ct34] }
theorem ok14 : EnvOk Try.prog E14 := ⟨ttOk, by kernel_rfl, rfl, mixOk⟩
theorem cs14 (w0 : World) (hJ : J w0) : EnvCts Try.prog E14 w0 := by
  intro c hc
  rcases List.mem_cons.1 hc with rfl | hc
  · exact fun w hb => all34 w (J_below hJ hb)
  cases hc
def ct14 : Ct := { f := 14, ps := [.v false .ro ls27, .v false .ro [.int .i64]], rs := [(false, [.int .i64])], shared := false, pre := fun (q : (List Flt) × Int) => pSz q.1 q.2, F := fun (q : (List Flt) × Int) => szF q.1 q.2 }
theorem law14 : ∀ q : (List Flt) × Int, pSz q.1 q.2 → szS (α := Flt) Dft.dft (fun y k => pSz y k) (fun y k => szF y k) q.1 q.2 (fun r => r = szF q.1 q.2) := fun q hq => szS_holds (α := Flt) Dft.dft cz wd q.1 q.2 hq.1.1 hq.1.2 hq.2.1 hq.2.2
theorem all14 (w : World) (hJ : J w) : CtAt Try.prog ct14 w :=
  ct_by ok14 (cs14 w hJ) Try.func14 (by kernel_rfl) (H := (hint [(5, [.val 1 (.int .i64), .val 5 (.int .i64)])])) law14 (by kernel_rfl)
def E56 : Env := { tt, eqs := [], cts := [ct71] }
theorem ok56 : EnvOk Try.prog E56 := ⟨ttOk, by kernel_rfl, rfl, mixOk⟩
theorem cs56 (w0 : World) (hJ : J w0) : EnvCts Try.prog E56 w0 := by
  intro c hc
  rcases List.mem_cons.1 hc with rfl | hc
  · exact fun w hb => all71 w (J_below hJ hb)
  cases hc
def ct56 : Ct := { f := 56, ps := [.v true .ro ls130, .v false .ro [.int .i64]], rs := [(false, [.int .i64])], shared := false, pre := fun (q : Rsc × Int) => pSz q.1 q.2, F := fun (q : Rsc × Int) => szF q.1 q.2 }
def st56 : List (SzStep Rsc) := [.str (fun x : Rsc => x.1), .str (fun x : Rsc => x.2.1), .call (fun x : Rsc => wd (x.2.2.2.2.2.2 : (List Fld))) (fun x : Rsc => cz (x.2.2.2.2.2.2 : (List Fld)))]
theorem c56 (x : Rsc) : szSum x st56 = cz x := by
  simp only [szSum, st56, cz_pair, cz_int, cz_bool, cz_str]
  all_goals omega
theorem w56 (x : Rsc) (h : wd x) : szFine x st56 := by
  first | simp only [wd_pair] at h | skip
  simp only [szFine, st56, wd_pair, wf_wd]
  simp only [h, and_self]
theorem law56 : ∀ q : Rsc × Int, pSz q.1 q.2 → szSt q.1 st56 q.2 (fun r => r = szF q.1 q.2) := fun q hq => szSt_holds q.1 st56 q.2 _ (w56 q.1 hq.1) hq.2.1 hq.2.2 (c56 q.1)
theorem all56 (w : World) (hJ : J w) : CtAt Try.prog ct56 w :=
  ct_by ok56 (cs56 w hJ) Try.func56 (by kernel_rfl) (H := (hint [])) law56 (by kernel_rfl)
def E35 : Env := { tt, eqs := [], cts := [ct56] }
theorem ok35 : EnvOk Try.prog E35 := ⟨ttOk, by kernel_rfl, rfl, mixOk⟩
theorem cs35 (w0 : World) (hJ : J w0) : EnvCts Try.prog E35 w0 := by
  intro c hc
  rcases List.mem_cons.1 hc with rfl | hc
  · exact fun w hb => all56 w (J_below hJ hb)
  cases hc
def ct35 : Ct := { f := 35, ps := [.v false .ro ls28, .v false .ro [.int .i64]], rs := [(false, [.int .i64])], shared := false, pre := fun (q : (List Rsc) × Int) => pSz q.1 q.2, F := fun (q : (List Rsc) × Int) => szF q.1 q.2 }
theorem law35 : ∀ q : (List Rsc) × Int, pSz q.1 q.2 → szS (α := Rsc) Dft.dft (fun y k => pSz y k) (fun y k => szF y k) q.1 q.2 (fun r => r = szF q.1 q.2) := fun q hq => szS_holds (α := Rsc) Dft.dft cz wd q.1 q.2 hq.1.1 hq.1.2 hq.2.1 hq.2.2
theorem all35 (w : World) (hJ : J w) : CtAt Try.prog ct35 w :=
  ct_by ok35 (cs35 w hJ) Try.func35 (by kernel_rfl) (H := (hint [(5, [.val 1 (.int .i64), .val 5 (.int .i64)])])) law35 (by kernel_rfl)
def E15 : Env := { tt, eqs := [], cts := [ct35] }
theorem ok15 : EnvOk Try.prog E15 := ⟨ttOk, by kernel_rfl, rfl, mixOk⟩
theorem cs15 (w0 : World) (hJ : J w0) : EnvCts Try.prog E15 w0 := by
  intro c hc
  rcases List.mem_cons.1 hc with rfl | hc
  · exact fun w hb => all35 w (J_below hJ hb)
  cases hc
def ct15 : Ct := { f := 15, ps := [.v true .ro ls30, .v false .ro [.int .i64]], rs := [(false, [.int .i64])], shared := false, pre := fun (q : (List Rsc) × Int) => pSz q.1 q.2, F := fun (q : (List Rsc) × Int) => szF q.1 q.2 }
def st15 : List (SzStep (List Rsc)) := [.call (fun x : (List Rsc) => wd (x : (List Rsc))) (fun x : (List Rsc) => cz (x : (List Rsc)))]
theorem c15 (x : (List Rsc)) : szSum x st15 = cz x := by
  simp only [szSum, st15, cz_pair, cz_int, cz_bool, cz_str]
  all_goals omega
theorem w15 (x : (List Rsc)) (h : wd x) : szFine x st15 := by
  first | simp only [wd_pair] at h | skip
  simp only [szFine, st15, wd_pair, wf_wd]
  simp only [h, and_self]
theorem law15 : ∀ q : (List Rsc) × Int, pSz q.1 q.2 → szSt q.1 st15 q.2 (fun r => r = szF q.1 q.2) := fun q hq => szSt_holds q.1 st15 q.2 _ (w15 q.1 hq.1) hq.2.1 hq.2.2 (c15 q.1)
theorem all15 (w : World) (hJ : J w) : CtAt Try.prog ct15 w :=
  ct_by ok15 (cs15 w hJ) Try.func15 (by kernel_rfl) (H := (hint [])) law15 (by kernel_rfl)
def E36 : Env := { tt, eqs := [], cts := [] }
theorem ok36 : EnvOk Try.prog E36 := ⟨ttOk, by kernel_rfl, rfl, mixOk⟩
theorem cs36 (w0 : World) (hJ : J w0) : EnvCts Try.prog E36 w0 := by
  intro c hc
  cases hc
def ct36 : Ct := { f := 36, ps := [.v true .ro ls102, .v false .ro [.int .i64]], rs := [(false, [.int .i64])], shared := false, pre := fun (q : Evt × Int) => pSz q.1 q.2, F := fun (q : Evt × Int) => szF q.1 q.2 }
def st36 : List (SzStep Evt) := [.str (fun x : Evt => x.2.2.2.1)]
theorem c36 (x : Evt) : szSum x st36 = cz x := by
  simp only [szSum, st36, cz_pair, cz_int, cz_bool, cz_str]
  all_goals omega
theorem w36 (x : Evt) (h : wd x) : szFine x st36 := by
  first | simp only [wd_pair] at h | skip
  simp only [szFine, st36, wd_pair, wf_wd]
  simp only [h, and_self]
theorem law36 : ∀ q : Evt × Int, pSz q.1 q.2 → szSt q.1 st36 q.2 (fun r => r = szF q.1 q.2) := fun q hq => szSt_holds q.1 st36 q.2 _ (w36 q.1 hq.1) hq.2.1 hq.2.2 (c36 q.1)
theorem all36 (w : World) (hJ : J w) : CtAt Try.prog ct36 w :=
  ct_by ok36 (cs36 w hJ) Try.func36 (by kernel_rfl) (H := (hint [])) law36 (by kernel_rfl)
def E16 : Env := { tt, eqs := [], cts := [ct36] }
theorem ok16 : EnvOk Try.prog E16 := ⟨ttOk, by kernel_rfl, rfl, mixOk⟩
theorem cs16 (w0 : World) (hJ : J w0) : EnvCts Try.prog E16 w0 := by
  intro c hc
  rcases List.mem_cons.1 hc with rfl | hc
  · exact fun w hb => all36 w (J_below hJ hb)
  cases hc
def ct16 : Ct := { f := 16, ps := [.v false .ro ls31, .v false .ro [.int .i64]], rs := [(false, [.int .i64])], shared := false, pre := fun (q : (List Evt) × Int) => pSz q.1 q.2, F := fun (q : (List Evt) × Int) => szF q.1 q.2 }
theorem law16 : ∀ q : (List Evt) × Int, pSz q.1 q.2 → szS (α := Evt) Dft.dft (fun y k => pSz y k) (fun y k => szF y k) q.1 q.2 (fun r => r = szF q.1 q.2) := fun q hq => szS_holds (α := Evt) Dft.dft cz wd q.1 q.2 hq.1.1 hq.1.2 hq.2.1 hq.2.2
theorem all16 (w : World) (hJ : J w) : CtAt Try.prog ct16 w :=
  ct_by ok16 (cs16 w hJ) Try.func16 (by kernel_rfl) (H := (hint [(5, [.val 1 (.int .i64), .val 5 (.int .i64)])])) law16 (by kernel_rfl)
def E5 : Env := { tt, eqs := [], cts := [ct12, ct13, ct14, ct15, ct16] }
theorem ok5 : EnvOk Try.prog E5 := ⟨ttOk, by kernel_rfl, rfl, mixOk⟩
theorem cs5 (w0 : World) (hJ : J w0) : EnvCts Try.prog E5 w0 := by
  intro c hc
  rcases List.mem_cons.1 hc with rfl | hc
  · exact fun w hb => all12 w (J_below hJ hb)
  rcases List.mem_cons.1 hc with rfl | hc
  · exact fun w hb => all13 w (J_below hJ hb)
  rcases List.mem_cons.1 hc with rfl | hc
  · exact fun w hb => all14 w (J_below hJ hb)
  rcases List.mem_cons.1 hc with rfl | hc
  · exact fun w hb => all15 w (J_below hJ hb)
  rcases List.mem_cons.1 hc with rfl | hc
  · exact fun w hb => all16 w (J_below hJ hb)
  cases hc
def ct5 : Ct := { f := 5, ps := [.v true .ro ls33, .v false .ro [.int .i64]], rs := [(false, [.int .i64])], shared := false, pre := fun (q : Wld × Int) => pSz q.1 q.2, F := fun (q : Wld × Int) => szF q.1 q.2 }
def st5 : List (SzStep Wld) := [.call (fun x : Wld => wd (x.2.2.1 : (List Cnn))) (fun x : Wld => cz (x.2.2.1 : (List Cnn))), .call (fun x : Wld => wd ((x.2.2.2.1, x.2.2.2.2.1) : Cch)) (fun x : Wld => cz ((x.2.2.2.1, x.2.2.2.2.1) : Cch)), .call (fun x : Wld => wd (x.2.2.2.2.2.1 : (List Flt))) (fun x : Wld => cz (x.2.2.2.2.2.1 : (List Flt))), .call (fun x : Wld => wd (x.2.2.2.2.2.2.1 : (List Rsc))) (fun x : Wld => cz (x.2.2.2.2.2.2.1 : (List Rsc))), .call (fun x : Wld => wd (x.2.2.2.2.2.2.2 : (List Evt))) (fun x : Wld => cz (x.2.2.2.2.2.2.2 : (List Evt)))]
theorem c5 (x : Wld) : szSum x st5 = cz x := by
  simp only [szSum, st5, cz_pair, cz_int, cz_bool, cz_str]
  all_goals omega
theorem w5 (x : Wld) (h : wd x) : szFine x st5 := by
  first | simp only [wd_pair] at h | skip
  simp only [szFine, st5, wd_pair, wf_wd]
  simp only [h, and_self]
theorem law5 : ∀ q : Wld × Int, pSz q.1 q.2 → szSt q.1 st5 q.2 (fun r => r = szF q.1 q.2) := fun q hq => szSt_holds q.1 st5 q.2 _ (w5 q.1 hq.1) hq.2.1 hq.2.2 (c5 q.1)
theorem all5 (w : World) (hJ : J w) : CtAt Try.prog ct5 w :=
  ct_by ok5 (cs5 w hJ) Try.func5 (by kernel_rfl) (H := (hint [])) law5 (by kernel_rfl)
def E82 : Env := { tt, eqs := [], cts := [] }
theorem ok82 : EnvOk Try.prog E82 := ⟨ttOk, by kernel_rfl, rfl, mixOk⟩
theorem cs82 (w0 : World) (hJ : J w0) : EnvCts Try.prog E82 w0 := by
  intro c hc
  cases hc
def ct82 : Ct := { f := 82, ps := [.v true .ro ls166], rs := [(true, ls170)], shared := false, pre := fun (x : Fld) => pTo x, F := fun (x : Fld) => toF x }
theorem law82 : ∀ q : Fld, pTo q → conj [] (q = toF q) := fun q hq => rfl
theorem all82 (w : World) (hJ : J w) : CtAt Try.prog ct82 w :=
  ct_by ok82 (cs82 w hJ) Try.func82 (by kernel_rfl) (H := (hint [])) law82 (by kernel_rfl)
def E74 : Env := { tt, eqs := [], cts := [ct82] }
theorem ok74 : EnvOk Try.prog E74 := ⟨ttOk, by kernel_rfl, rfl, mixOk⟩
theorem cs74 (w0 : World) (hJ : J w0) : EnvCts Try.prog E74 w0 := by
  intro c hc
  rcases List.mem_cons.1 hc with rfl | hc
  · exact fun w hb => all82 w (J_below hJ hb)
  cases hc
def ct74 : Ct := { f := 74, ps := [.v false .ro ls84], rs := [(false, ls59)], shared := false, pre := fun (x : (List Fld)) => pTo x, F := fun (x : (List Fld)) => toF x }
theorem law74 : ∀ q : (List Fld), pTo q → toS (α := Fld) Dft.dft 32 (fun y => pTo y) q (fun r => r = toF q) := fun q hq => toS_holds (α := Fld) Dft.dft 32 (fun y => pTo y) q (md_len' hq) (by omega) (fun i a h => md_mem hq (List.mem_of_getElem? h)) rfl
theorem all74 (w : World) (hJ : J w) : CtAt Try.prog ct74 w :=
  ct_by ok74 (cs74 w hJ) Try.func74 (by kernel_rfl) (H := (hint [(3, [.reg 3 170 ls170 true, .val 4 (.int .i64)])])) law74 (by kernel_rfl)
def E57 : Env := { tt, eqs := [], cts := [ct74] }
theorem ok57 : EnvOk Try.prog E57 := ⟨ttOk, by kernel_rfl, rfl, mixOk⟩
theorem cs57 (w0 : World) (hJ : J w0) : EnvCts Try.prog E57 w0 := by
  intro c hc
  rcases List.mem_cons.1 hc with rfl | hc
  · exact fun w hb => all74 w (J_below hJ hb)
  cases hc
def ct57 : Ct := { f := 57, ps := [.v true .ro ls86], rs := [(true, ls61)], shared := false, pre := fun (x : Req) => pTo x, F := fun (x : Req) => toF x }
theorem law57 : ∀ q : Req, pTo q → conj [pTo (q.2.2.1 : (List Fld))] (q = toF q) := fun q hq => ⟨(czh (czt (czt hq))), rfl⟩
theorem all57 (w : World) (hJ : J w) : CtAt Try.prog ct57 w :=
  ct_by ok57 (cs57 w hJ) Try.func57 (by kernel_rfl) (H := (hint [])) law57 (by kernel_rfl)
def E59 : Env := { tt, eqs := [], cts := [ct74] }
theorem ok59 : EnvOk Try.prog E59 := ⟨ttOk, by kernel_rfl, rfl, mixOk⟩
theorem cs59 (w0 : World) (hJ : J w0) : EnvCts Try.prog E59 w0 := by
  intro c hc
  rcases List.mem_cons.1 hc with rfl | hc
  · exact fun w hb => all74 w (J_below hJ hb)
  cases hc
def ct59 : Ct := { f := 59, ps := [.v true .ro ls88], rs := [(true, ls63)], shared := false, pre := fun (x : Rsp) => pTo x, F := fun (x : Rsp) => toF x }
theorem law59 : ∀ q : Rsp, pTo q → conj [pTo (q.2.1 : (List Fld))] (q = toF q) := fun q hq => ⟨(czh (czt hq)), rfl⟩
theorem all59 (w : World) (hJ : J w) : CtAt Try.prog ct59 w :=
  ct_by ok59 (cs59 w hJ) Try.func59 (by kernel_rfl) (H := (hint [])) law59 (by kernel_rfl)
def E58 : Env := { tt, eqs := [], cts := [ct74, ct59] }
theorem ok58 : EnvOk Try.prog E58 := ⟨ttOk, by kernel_rfl, rfl, mixOk⟩
theorem cs58 (w0 : World) (hJ : J w0) : EnvCts Try.prog E58 w0 := by
  intro c hc
  rcases List.mem_cons.1 hc with rfl | hc
  · exact fun w hb => all74 w (J_below hJ hb)
  rcases List.mem_cons.1 hc with rfl | hc
  · exact fun w hb => all59 w (J_below hJ hb)
  cases hc
def ct58 : Ct := { f := 58, ps := [.v true .ro ls90], rs := [(true, ls65)], shared := false, pre := fun (x : Sto) => pTo x, F := fun (x : Sto) => toF x }
theorem law58 : ∀ q : Sto, pTo q → conj [pTo (q.2.1 : (List Fld)), pTo ((q.2.2.1, q.2.2.2.1, q.2.2.2.2.1) : Rsp)] (q = toF q) := fun q hq => ⟨(czh (czt hq)), (czm3 (czt (czt hq))), rfl⟩
theorem all58 (w : World) (hJ : J w) : CtAt Try.prog ct58 w :=
  ct_by ok58 (cs58 w hJ) Try.func58 (by kernel_rfl) (H := (hint [])) law58 (by kernel_rfl)
def E75 : Env := { tt, eqs := [], cts := [ct59] }
theorem ok75 : EnvOk Try.prog E75 := ⟨ttOk, by kernel_rfl, rfl, mixOk⟩
theorem cs75 (w0 : World) (hJ : J w0) : EnvCts Try.prog E75 w0 := by
  intro c hc
  rcases List.mem_cons.1 hc with rfl | hc
  · exact fun w hb => all59 w (J_below hJ hb)
  cases hc
def ct75 : Ct := { f := 75, ps := [.v true .ro ls154], rs := [(true, ls158)], shared := false, pre := fun (x : Tld) => pTo x, F := fun (x : Tld) => toF x }
theorem law75 : ∀ q : Tld, pTo q → conj [pTo (q.2 : Rsp)] (q = toF q) := fun q hq => ⟨(czt hq), rfl⟩
theorem all75 (w : World) (hJ : J w) : CtAt Try.prog ct75 w :=
  ct_by ok75 (cs75 w hJ) Try.func75 (by kernel_rfl) (H := (hint [])) law75 (by kernel_rfl)
def E60 : Env := { tt, eqs := [], cts := [ct75] }
theorem ok60 : EnvOk Try.prog E60 := ⟨ttOk, by kernel_rfl, rfl, mixOk⟩
theorem cs60 (w0 : World) (hJ : J w0) : EnvCts Try.prog E60 w0 := by
  intro c hc
  rcases List.mem_cons.1 hc with rfl | hc
  · exact fun w hb => all75 w (J_below hJ hb)
  cases hc
def ct60 : Ct := { f := 60, ps := [.v false .ro ls91], rs := [(false, ls66)], shared := false, pre := fun (x : (List Tld)) => pTo x, F := fun (x : (List Tld)) => toF x }
theorem law60 : ∀ q : (List Tld), pTo q → toS (α := Tld) Dft.dft 56 (fun y => pTo y) q (fun r => r = toF q) := fun q hq => toS_holds (α := Tld) Dft.dft 56 (fun y => pTo y) q (md_len' hq) (by omega) (fun i a h => md_mem hq (List.mem_of_getElem? h)) rfl
theorem all60 (w : World) (hJ : J w) : CtAt Try.prog ct60 w :=
  ct_by ok60 (cs60 w hJ) Try.func60 (by kernel_rfl) (H := (hint [(3, [.reg 3 158 ls158 true, .val 4 (.int .i64)])])) law60 (by kernel_rfl)
def E37 : Env := { tt, eqs := [], cts := [ct57, ct58, ct59, ct60] }
theorem ok37 : EnvOk Try.prog E37 := ⟨ttOk, by kernel_rfl, rfl, mixOk⟩
theorem cs37 (w0 : World) (hJ : J w0) : EnvCts Try.prog E37 w0 := by
  intro c hc
  rcases List.mem_cons.1 hc with rfl | hc
  · exact fun w hb => all57 w (J_below hJ hb)
  rcases List.mem_cons.1 hc with rfl | hc
  · exact fun w hb => all58 w (J_below hJ hb)
  rcases List.mem_cons.1 hc with rfl | hc
  · exact fun w hb => all59 w (J_below hJ hb)
  rcases List.mem_cons.1 hc with rfl | hc
  · exact fun w hb => all60 w (J_below hJ hb)
  cases hc
def ct37 : Ct := { f := 37, ps := [.v true .ro ls93], rs := [(true, ls68)], shared := false, pre := fun (x : Cnn) => pTo x, F := fun (x : Cnn) => toF x }
theorem law37 : ∀ q : Cnn, pTo q → conj [pTo ((q.2.2.2.1, q.2.2.2.2.1, q.2.2.2.2.2.1, q.2.2.2.2.2.2.1) : Req), pTo ((q.2.2.2.2.2.2.2.1, q.2.2.2.2.2.2.2.2.1, q.2.2.2.2.2.2.2.2.2.1, q.2.2.2.2.2.2.2.2.2.2.1) : Req), pTo ((q.2.2.2.2.2.2.2.2.2.2.2.1, q.2.2.2.2.2.2.2.2.2.2.2.2.1, q.2.2.2.2.2.2.2.2.2.2.2.2.2.1, q.2.2.2.2.2.2.2.2.2.2.2.2.2.2.1, q.2.2.2.2.2.2.2.2.2.2.2.2.2.2.2.1, q.2.2.2.2.2.2.2.2.2.2.2.2.2.2.2.2.1, q.2.2.2.2.2.2.2.2.2.2.2.2.2.2.2.2.2.1) : Sto), pTo ((q.2.2.2.2.2.2.2.2.2.2.2.2.2.2.2.2.2.2.2.2.2.2.2.2.1, q.2.2.2.2.2.2.2.2.2.2.2.2.2.2.2.2.2.2.2.2.2.2.2.2.2.1, q.2.2.2.2.2.2.2.2.2.2.2.2.2.2.2.2.2.2.2.2.2.2.2.2.2.2.1) : Rsp), pTo (q.2.2.2.2.2.2.2.2.2.2.2.2.2.2.2.2.2.2.2.2.2.2.2.2.2.2.2 : (List Tld))] (q = toF q) := fun q hq => ⟨(czm4 (czt (czt (czt hq)))), (czm4 (czt (czt (czt (czt (czt (czt (czt hq)))))))), (czm7 (czt (czt (czt (czt (czt (czt (czt (czt (czt (czt (czt hq)))))))))))), (czm3 (czt (czt (czt (czt (czt (czt (czt (czt (czt (czt (czt (czt (czt (czt (czt (czt (czt (czt (czt (czt (czt (czt (czt (czt hq))))))))))))))))))))))))), (czt (czt (czt (czt (czt (czt (czt (czt (czt (czt (czt (czt (czt (czt (czt (czt (czt (czt (czt (czt (czt (czt (czt (czt (czt (czt (czt hq))))))))))))))))))))))))))), rfl⟩
theorem all37 (w : World) (hJ : J w) : CtAt Try.prog ct37 w :=
  ct_by ok37 (cs37 w hJ) Try.func37 (by kernel_rfl) (H := (hint [])) law37 (by kernel_rfl)
def E18 : Env := { tt, eqs := [], cts := [ct37] }
theorem ok18 : EnvOk Try.prog E18 := ⟨ttOk, by kernel_rfl, rfl, mixOk⟩
theorem cs18 (w0 : World) (hJ : J w0) : EnvCts Try.prog E18 w0 := by
  intro c hc
  rcases List.mem_cons.1 hc with rfl | hc
  · exact fun w hb => all37 w (J_below hJ hb)
  cases hc
def ct18 : Ct := { f := 18, ps := [.v false .ro ls22], rs := [(false, ls36)], shared := false, pre := fun (x : (List Cnn)) => pTo x, F := fun (x : (List Cnn)) => toF x }
theorem law18 : ∀ q : (List Cnn), pTo q → toS (α := Cnn) Dft.dft 400 (fun y => pTo y) q (fun r => r = toF q) := fun q hq => toS_holds (α := Cnn) Dft.dft 400 (fun y => pTo y) q (md_len' hq) (by omega) (fun i a h => md_mem hq (List.mem_of_getElem? h)) rfl
theorem all18 (w : World) (hJ : J w) : CtAt Try.prog ct18 w :=
  ct_by ok18 (cs18 w hJ) Try.func18 (by kernel_rfl) (H := (hint [(3, [.reg 3 68 ls68 true, .val 4 (.int .i64)])])) law18 (by kernel_rfl)
def E83 : Env := { tt, eqs := [], cts := [ct58] }
theorem ok83 : EnvOk Try.prog E83 := ⟨ttOk, by kernel_rfl, rfl, mixOk⟩
theorem cs83 (w0 : World) (hJ : J w0) : EnvCts Try.prog E83 w0 := by
  intro c hc
  rcases List.mem_cons.1 hc with rfl | hc
  · exact fun w hb => all58 w (J_below hJ hb)
  cases hc
def ct83 : Ct := { f := 83, ps := [.v true .ro ls169], rs := [(true, ls173)], shared := false, pre := fun (x : Slt) => pTo x, F := fun (x : Slt) => toF x }
theorem law83 : ∀ q : Slt, pTo q → conj [pTo ((q.1, q.2.1, q.2.2.1, q.2.2.2.1, q.2.2.2.2.1, q.2.2.2.2.2.1, q.2.2.2.2.2.2.1) : Sto)] (q = toF q) := fun q hq => ⟨(czm7 hq), rfl⟩
theorem all83 (w : World) (hJ : J w) : CtAt Try.prog ct83 w :=
  ct_by ok83 (cs83 w hJ) Try.func83 (by kernel_rfl) (H := (hint [])) law83 (by kernel_rfl)
def E76 : Env := { tt, eqs := [], cts := [ct83] }
theorem ok76 : EnvOk Try.prog E76 := ⟨ttOk, by kernel_rfl, rfl, mixOk⟩
theorem cs76 (w0 : World) (hJ : J w0) : EnvCts Try.prog E76 w0 := by
  intro c hc
  rcases List.mem_cons.1 hc with rfl | hc
  · exact fun w hb => all83 w (J_below hJ hb)
  cases hc
def ct76 : Ct := { f := 76, ps := [.v false .ro ls122], rs := [(false, ls135)], shared := false, pre := fun (x : (List Slt)) => pTo x, F := fun (x : (List Slt)) => toF x }
theorem law76 : ∀ q : (List Slt), pTo q → toS (α := Slt) Dft.dft 112 (fun y => pTo y) q (fun r => r = toF q) := fun q hq => toS_holds (α := Slt) Dft.dft 112 (fun y => pTo y) q (md_len' hq) (by omega) (fun i a h => md_mem hq (List.mem_of_getElem? h)) rfl
theorem all76 (w : World) (hJ : J w) : CtAt Try.prog ct76 w :=
  ct_by ok76 (cs76 w hJ) Try.func76 (by kernel_rfl) (H := (hint [(3, [.reg 3 173 ls173 true, .val 4 (.int .i64)])])) law76 (by kernel_rfl)
def E61 : Env := { tt, eqs := [], cts := [ct76] }
theorem ok61 : EnvOk Try.prog E61 := ⟨ttOk, by kernel_rfl, rfl, mixOk⟩
theorem cs61 (w0 : World) (hJ : J w0) : EnvCts Try.prog E61 w0 := by
  intro c hc
  rcases List.mem_cons.1 hc with rfl | hc
  · exact fun w hb => all76 w (J_below hJ hb)
  cases hc
def ct61 : Ct := { f := 61, ps := [.v true .ro ls124], rs := [(true, ls137)], shared := false, pre := fun (x : Shd) => pTo x, F := fun (x : Shd) => toF x }
theorem law61 : ∀ q : Shd, pTo q → conj [pTo (q.2.2.1 : (List Slt))] (q = toF q) := fun q hq => ⟨(czh (czt (czt hq))), rfl⟩
theorem all61 (w : World) (hJ : J w) : CtAt Try.prog ct61 w :=
  ct_by ok61 (cs61 w hJ) Try.func61 (by kernel_rfl) (H := (hint [])) law61 (by kernel_rfl)
def E38 : Env := { tt, eqs := [], cts := [ct61] }
theorem ok38 : EnvOk Try.prog E38 := ⟨ttOk, by kernel_rfl, rfl, mixOk⟩
theorem cs38 (w0 : World) (hJ : J w0) : EnvCts Try.prog E38 w0 := by
  intro c hc
  rcases List.mem_cons.1 hc with rfl | hc
  · exact fun w hb => all61 w (J_below hJ hb)
  cases hc
def ct38 : Ct := { f := 38, ps := [.v false .ro ls23], rs := [(false, ls37)], shared := false, pre := fun (x : (List Shd)) => pTo x, F := fun (x : (List Shd)) => toF x }
theorem law38 : ∀ q : (List Shd), pTo q → toS (α := Shd) Dft.dft 48 (fun y => pTo y) q (fun r => r = toF q) := fun q hq => toS_holds (α := Shd) Dft.dft 48 (fun y => pTo y) q (md_len' hq) (by omega) (fun i a h => md_mem hq (List.mem_of_getElem? h)) rfl
theorem all38 (w : World) (hJ : J w) : CtAt Try.prog ct38 w :=
  ct_by ok38 (cs38 w hJ) Try.func38 (by kernel_rfl) (H := (hint [(3, [.reg 3 137 ls137 true, .val 4 (.int .i64)])])) law38 (by kernel_rfl)
def E62 : Env := { tt, eqs := [], cts := [] }
theorem ok62 : EnvOk Try.prog E62 := ⟨ttOk, by kernel_rfl, rfl, mixOk⟩
theorem cs62 (w0 : World) (hJ : J w0) : EnvCts Try.prog E62 w0 := by
  intro c hc
  cases hc
def ct62 : Ct := { f := 62, ps := [.v true .ro ls127], rs := [(true, ls139)], shared := false, pre := fun (x : Gen) => pTo x, F := fun (x : Gen) => toF x }
theorem law62 : ∀ q : Gen, pTo q → conj [] (q = toF q) := fun q hq => rfl
theorem all62 (w : World) (hJ : J w) : CtAt Try.prog ct62 w :=
  ct_by ok62 (cs62 w hJ) Try.func62 (by kernel_rfl) (H := (hint [])) law62 (by kernel_rfl)
def E39 : Env := { tt, eqs := [], cts := [ct62] }
theorem ok39 : EnvOk Try.prog E39 := ⟨ttOk, by kernel_rfl, rfl, mixOk⟩
theorem cs39 (w0 : World) (hJ : J w0) : EnvCts Try.prog E39 w0 := by
  intro c hc
  rcases List.mem_cons.1 hc with rfl | hc
  · exact fun w hb => all62 w (J_below hJ hb)
  cases hc
def ct39 : Ct := { f := 39, ps := [.v false .ro ls24], rs := [(false, ls38)], shared := false, pre := fun (x : (List Gen)) => pTo x, F := fun (x : (List Gen)) => toF x }
theorem law39 : ∀ q : (List Gen), pTo q → toS (α := Gen) Dft.dft 24 (fun y => pTo y) q (fun r => r = toF q) := fun q hq => toS_holds (α := Gen) Dft.dft 24 (fun y => pTo y) q (md_len' hq) (by omega) (fun i a h => md_mem hq (List.mem_of_getElem? h)) rfl
theorem all39 (w : World) (hJ : J w) : CtAt Try.prog ct39 w :=
  ct_by ok39 (cs39 w hJ) Try.func39 (by kernel_rfl) (H := (hint [(3, [.reg 3 139 ls139 true, .val 4 (.int .i64)])])) law39 (by kernel_rfl)
def E19 : Env := { tt, eqs := [], cts := [ct38, ct39] }
theorem ok19 : EnvOk Try.prog E19 := ⟨ttOk, by kernel_rfl, rfl, mixOk⟩
theorem cs19 (w0 : World) (hJ : J w0) : EnvCts Try.prog E19 w0 := by
  intro c hc
  rcases List.mem_cons.1 hc with rfl | hc
  · exact fun w hb => all38 w (J_below hJ hb)
  rcases List.mem_cons.1 hc with rfl | hc
  · exact fun w hb => all39 w (J_below hJ hb)
  cases hc
def ct19 : Ct := { f := 19, ps := [.v true .ro ls26], rs := [(true, ls40)], shared := false, pre := fun (x : Cch) => pTo x, F := fun (x : Cch) => toF x }
theorem law19 : ∀ q : Cch, pTo q → conj [pTo (q.1 : (List Shd)), pTo (q.2 : (List Gen))] (q = toF q) := fun q hq => ⟨(czh hq), (czt hq), rfl⟩
theorem all19 (w : World) (hJ : J w) : CtAt Try.prog ct19 w :=
  ct_by ok19 (cs19 w hJ) Try.func19 (by kernel_rfl) (H := (hint [])) law19 (by kernel_rfl)
def E40 : Env := { tt, eqs := [], cts := [ct57, ct59] }
theorem ok40 : EnvOk Try.prog E40 := ⟨ttOk, by kernel_rfl, rfl, mixOk⟩
theorem cs40 (w0 : World) (hJ : J w0) : EnvCts Try.prog E40 w0 := by
  intro c hc
  rcases List.mem_cons.1 hc with rfl | hc
  · exact fun w hb => all57 w (J_below hJ hb)
  rcases List.mem_cons.1 hc with rfl | hc
  · exact fun w hb => all59 w (J_below hJ hb)
  cases hc
def ct40 : Ct := { f := 40, ps := [.v true .ro ls98], rs := [(true, ls70)], shared := false, pre := fun (x : Flt) => pTo x, F := fun (x : Flt) => toF x }
theorem law40 : ∀ q : Flt, pTo q → conj [pTo ((q.2.2.2.2.2.1, q.2.2.2.2.2.2.1, q.2.2.2.2.2.2.2.1, q.2.2.2.2.2.2.2.2.1) : Req), pTo ((q.2.2.2.2.2.2.2.2.2.1, q.2.2.2.2.2.2.2.2.2.2.1, q.2.2.2.2.2.2.2.2.2.2.2.1) : Rsp)] (q = toF q) := fun q hq => ⟨(czm4 (czt (czt (czt (czt (czt hq)))))), (czm3 (czt (czt (czt (czt (czt (czt (czt (czt (czt hq)))))))))), rfl⟩
theorem all40 (w : World) (hJ : J w) : CtAt Try.prog ct40 w :=
  ct_by ok40 (cs40 w hJ) Try.func40 (by kernel_rfl) (H := (hint [])) law40 (by kernel_rfl)
def E20 : Env := { tt, eqs := [], cts := [ct40] }
theorem ok20 : EnvOk Try.prog E20 := ⟨ttOk, by kernel_rfl, rfl, mixOk⟩
theorem cs20 (w0 : World) (hJ : J w0) : EnvCts Try.prog E20 w0 := by
  intro c hc
  rcases List.mem_cons.1 hc with rfl | hc
  · exact fun w hb => all40 w (J_below hJ hb)
  cases hc
def ct20 : Ct := { f := 20, ps := [.v false .ro ls27], rs := [(false, ls41)], shared := false, pre := fun (x : (List Flt)) => pTo x, F := fun (x : (List Flt)) => toF x }
theorem law20 : ∀ q : (List Flt), pTo q → toS (α := Flt) Dft.dft 176 (fun y => pTo y) q (fun r => r = toF q) := fun q hq => toS_holds (α := Flt) Dft.dft 176 (fun y => pTo y) q (md_len' hq) (by omega) (fun i a h => md_mem hq (List.mem_of_getElem? h)) rfl
theorem all20 (w : World) (hJ : J w) : CtAt Try.prog ct20 w :=
  ct_by ok20 (cs20 w hJ) Try.func20 (by kernel_rfl) (H := (hint [(3, [.reg 3 70 ls70 true, .val 4 (.int .i64)])])) law20 (by kernel_rfl)
def E63 : Env := { tt, eqs := [], cts := [ct74] }
theorem ok63 : EnvOk Try.prog E63 := ⟨ttOk, by kernel_rfl, rfl, mixOk⟩
theorem cs63 (w0 : World) (hJ : J w0) : EnvCts Try.prog E63 w0 := by
  intro c hc
  rcases List.mem_cons.1 hc with rfl | hc
  · exact fun w hb => all74 w (J_below hJ hb)
  cases hc
def ct63 : Ct := { f := 63, ps := [.v true .ro ls130], rs := [(true, ls142)], shared := false, pre := fun (x : Rsc) => pTo x, F := fun (x : Rsc) => toF x }
theorem law63 : ∀ q : Rsc, pTo q → conj [pTo (q.2.2.2.2.2.2 : (List Fld))] (q = toF q) := fun q hq => ⟨(czt (czt (czt (czt (czt (czt hq)))))), rfl⟩
theorem all63 (w : World) (hJ : J w) : CtAt Try.prog ct63 w :=
  ct_by ok63 (cs63 w hJ) Try.func63 (by kernel_rfl) (H := (hint [])) law63 (by kernel_rfl)
def E41 : Env := { tt, eqs := [], cts := [ct63] }
theorem ok41 : EnvOk Try.prog E41 := ⟨ttOk, by kernel_rfl, rfl, mixOk⟩
theorem cs41 (w0 : World) (hJ : J w0) : EnvCts Try.prog E41 w0 := by
  intro c hc
  rcases List.mem_cons.1 hc with rfl | hc
  · exact fun w hb => all63 w (J_below hJ hb)
  cases hc
def ct41 : Ct := { f := 41, ps := [.v false .ro ls28], rs := [(false, ls42)], shared := false, pre := fun (x : (List Rsc)) => pTo x, F := fun (x : (List Rsc)) => toF x }
theorem law41 : ∀ q : (List Rsc), pTo q → toS (α := Rsc) Dft.dft 80 (fun y => pTo y) q (fun r => r = toF q) := fun q hq => toS_holds (α := Rsc) Dft.dft 80 (fun y => pTo y) q (md_len' hq) (by omega) (fun i a h => md_mem hq (List.mem_of_getElem? h)) rfl
theorem all41 (w : World) (hJ : J w) : CtAt Try.prog ct41 w :=
  ct_by ok41 (cs41 w hJ) Try.func41 (by kernel_rfl) (H := (hint [(3, [.reg 3 142 ls142 true, .val 4 (.int .i64)])])) law41 (by kernel_rfl)
def E21 : Env := { tt, eqs := [], cts := [ct41] }
theorem ok21 : EnvOk Try.prog E21 := ⟨ttOk, by kernel_rfl, rfl, mixOk⟩
theorem cs21 (w0 : World) (hJ : J w0) : EnvCts Try.prog E21 w0 := by
  intro c hc
  rcases List.mem_cons.1 hc with rfl | hc
  · exact fun w hb => all41 w (J_below hJ hb)
  cases hc
def ct21 : Ct := { f := 21, ps := [.v true .ro ls30], rs := [(true, ls44)], shared := false, pre := fun (x : (List Rsc)) => pTo x, F := fun (x : (List Rsc)) => toF x }
theorem law21 : ∀ q : (List Rsc), pTo q → conj [pTo (q : (List Rsc))] (q = toF q) := fun q hq => ⟨hq, rfl⟩
theorem all21 (w : World) (hJ : J w) : CtAt Try.prog ct21 w :=
  ct_by ok21 (cs21 w hJ) Try.func21 (by kernel_rfl) (H := (hint [])) law21 (by kernel_rfl)
def E42 : Env := { tt, eqs := [], cts := [] }
theorem ok42 : EnvOk Try.prog E42 := ⟨ttOk, by kernel_rfl, rfl, mixOk⟩
theorem cs42 (w0 : World) (hJ : J w0) : EnvCts Try.prog E42 w0 := by
  intro c hc
  cases hc
def ct42 : Ct := { f := 42, ps := [.v true .ro ls102], rs := [(true, ls108)], shared := false, pre := fun (x : Evt) => pTo x, F := fun (x : Evt) => toF x }
theorem law42 : ∀ q : Evt, pTo q → conj [] (q = toF q) := fun q hq => rfl
theorem all42 (w : World) (hJ : J w) : CtAt Try.prog ct42 w :=
  ct_by ok42 (cs42 w hJ) Try.func42 (by kernel_rfl) (H := (hint [])) law42 (by kernel_rfl)
def E22 : Env := { tt, eqs := [], cts := [ct42] }
theorem ok22 : EnvOk Try.prog E22 := ⟨ttOk, by kernel_rfl, rfl, mixOk⟩
theorem cs22 (w0 : World) (hJ : J w0) : EnvCts Try.prog E22 w0 := by
  intro c hc
  rcases List.mem_cons.1 hc with rfl | hc
  · exact fun w hb => all42 w (J_below hJ hb)
  cases hc
def ct22 : Ct := { f := 22, ps := [.v false .ro ls31], rs := [(false, ls45)], shared := false, pre := fun (x : (List Evt)) => pTo x, F := fun (x : (List Evt)) => toF x }
theorem law22 : ∀ q : (List Evt), pTo q → toS (α := Evt) Dft.dft 56 (fun y => pTo y) q (fun r => r = toF q) := fun q hq => toS_holds (α := Evt) Dft.dft 56 (fun y => pTo y) q (md_len' hq) (by omega) (fun i a h => md_mem hq (List.mem_of_getElem? h)) rfl
theorem all22 (w : World) (hJ : J w) : CtAt Try.prog ct22 w :=
  ct_by ok22 (cs22 w hJ) Try.func22 (by kernel_rfl) (H := (hint [(3, [.reg 3 108 ls108 true, .val 4 (.int .i64)])])) law22 (by kernel_rfl)
def E7 : Env := { tt, eqs := [], cts := [ct18, ct19, ct20, ct21, ct22] }
theorem ok7 : EnvOk Try.prog E7 := ⟨ttOk, by kernel_rfl, rfl, mixOk⟩
theorem cs7 (w0 : World) (hJ : J w0) : EnvCts Try.prog E7 w0 := by
  intro c hc
  rcases List.mem_cons.1 hc with rfl | hc
  · exact fun w hb => all18 w (J_below hJ hb)
  rcases List.mem_cons.1 hc with rfl | hc
  · exact fun w hb => all19 w (J_below hJ hb)
  rcases List.mem_cons.1 hc with rfl | hc
  · exact fun w hb => all20 w (J_below hJ hb)
  rcases List.mem_cons.1 hc with rfl | hc
  · exact fun w hb => all21 w (J_below hJ hb)
  rcases List.mem_cons.1 hc with rfl | hc
  · exact fun w hb => all22 w (J_below hJ hb)
  cases hc
def ct7 : Ct := { f := 7, ps := [.v true .ro ls33], rs := [(true, ls47)], shared := false, pre := fun (x : Wld) => pTo x, F := fun (x : Wld) => toF x }
theorem law7 : ∀ q : Wld, pTo q → conj [pTo (q.2.2.1 : (List Cnn)), pTo ((q.2.2.2.1, q.2.2.2.2.1) : Cch), pTo (q.2.2.2.2.2.1 : (List Flt)), pTo (q.2.2.2.2.2.2.1 : (List Rsc)), pTo (q.2.2.2.2.2.2.2 : (List Evt))] (q = toF q) := fun q hq => ⟨(czh (czt (czt hq))), (czm2 (czt (czt (czt hq)))), (czh (czt (czt (czt (czt (czt hq)))))), (czh (czt (czt (czt (czt (czt (czt hq))))))), (czt (czt (czt (czt (czt (czt (czt hq))))))), rfl⟩
theorem all7 (w : World) (hJ : J w) : CtAt Try.prog ct7 w :=
  ct_by ok7 (cs7 w hJ) Try.func7 (by kernel_rfl) (H := (hint [])) law7 (by kernel_rfl)
def E17 : Env := { tt, eqs := [], cts := [] }
theorem ok17 : EnvOk Try.prog E17 := ⟨ttOk, by kernel_rfl, rfl, mixOk⟩
theorem cs17 (w0 : World) (hJ : J w0) : EnvCts Try.prog E17 w0 := by
  intro c hc
  cases hc
def ct17 : Ct := { f := 17, ps := [.v false .ro ls3, .v false .ro ls3, .v false .ro ls3], rs := [(false, ls4)], shared := false, pre := fun (x : Int × Int × Int) => pIn x.1 x.2.1 x.2.2, F := fun (x : Int × Int × Int) => mIn x.1 x.2.1 x.2.2 }
theorem law17 : ∀ x : Int × Int × Int, pIn x.1 x.2.1 x.2.2 → s_spec_l1In x.1 x.2.1 x.2.2 (fun r => r = mIn x.1 x.2.1 x.2.2) := fun x _ => spec_l1In_ok x.1 x.2.1 x.2.2
theorem all17 (w : World) (hJ : J w) : CtAt Try.prog ct17 w :=
  ct_by ok17 (cs17 w hJ) Try.func17 (by kernel_rfl) (H := (hint [])) law17 (by kernel_rfl)
def E6 : Env := { tt, eqs := [], cts := [ct17] }
theorem ok6 : EnvOk Try.prog E6 := ⟨ttOk, by kernel_rfl, rfl, mixOk⟩
theorem cs6 (w0 : World) (hJ : J w0) : EnvCts Try.prog E6 w0 := by
  intro c hc
  rcases List.mem_cons.1 hc with rfl | hc
  · exact fun w hb => all17 w (J_below hJ hb)
  cases hc
def ct6 : Ct := { f := 6, ps := [.v true .ro ls47, .v false .ro ls3], rs := [(false, ls4)], shared := false, pre := fun (x : Wld × Int) => pBlocked x.1 x.2, F := fun (x : Wld × Int) => mBlocked x.1 x.2 }
theorem law6 : ∀ x : Wld × Int, pBlocked x.1 x.2 → s_spec_Blocked x.1 x.2 (fun r => r = mBlocked x.1 x.2) := fun x h => spec_Blocked_ok x.1 x.2 h
theorem all6 (w : World) (hJ : J w) : CtAt Try.prog ct6 w :=
  ct_by ok6 (cs6 w hJ) Try.func6 (by kernel_rfl) (H := (hint [])) law6 (by kernel_rfl)
def E23 : Env := { tt, eqs := [], cts := [] }
theorem ok23 : EnvOk Try.prog E23 := ⟨ttOk, by kernel_rfl, rfl, mixOk⟩
theorem cs23 (w0 : World) (hJ : J w0) : EnvCts Try.prog E23 w0 := by
  intro c hc
  cases hc
def ct23 : Ct := { f := 23, ps := [.v false .ro ls3, .v false .ro ls3, .v false .ro ls3], rs := [(false, ls4)], shared := false, pre := fun (x : Int × Int × Int) => pIn x.1 x.2.1 x.2.2, F := fun (x : Int × Int × Int) => mIn x.1 x.2.1 x.2.2 }
theorem law23 : ∀ x : Int × Int × Int, pIn x.1 x.2.1 x.2.2 → s_impl_in x.1 x.2.1 x.2.2 (fun r => r = mIn x.1 x.2.1 x.2.2) := fun x _ => impl_in_ok x.1 x.2.1 x.2.2
theorem all23 (w : World) (hJ : J w) : CtAt Try.prog ct23 w :=
  ct_by ok23 (cs23 w hJ) Try.func23 (by kernel_rfl) (H := (hint [])) law23 (by kernel_rfl)
def E8 : Env := { tt, eqs := [], cts := [ct23] }
theorem ok8 : EnvOk Try.prog E8 := ⟨ttOk, by kernel_rfl, rfl, mixOk⟩
theorem cs8 (w0 : World) (hJ : J w0) : EnvCts Try.prog E8 w0 := by
  intro c hc
  rcases List.mem_cons.1 hc with rfl | hc
  · exact fun w hb => all23 w (J_below hJ hb)
  cases hc
def ct8 : Ct := { f := 8, ps := [.v true .ro ls47, .v false .ro ls3], rs := [(false, ls4)], shared := false, pre := fun (x : Wld × Int) => pBlocked x.1 x.2, F := fun (x : Wld × Int) => mBlocked x.1 x.2 }
theorem law8 : ∀ x : Wld × Int, pBlocked x.1 x.2 → s_impl_Blocked x.1 x.2 (fun r => r = mBlocked x.1 x.2) := fun x h => impl_Blocked_ok x.1 x.2 h
theorem all8 (w : World) (hJ : J w) : CtAt Try.prog ct8 w :=
  ct_by ok8 (cs8 w hJ) Try.func8 (by kernel_rfl) (H := (hint [])) law8 (by kernel_rfl)
def E84 : Env := { tt, eqs := [], cts := [] }
theorem ok84 : EnvOk Try.prog E84 := ⟨ttOk, by kernel_rfl, rfl, mixOk⟩
theorem cs84 (w0 : World) (hJ : J w0) : EnvCts Try.prog E84 w0 := by
  intro c hc
  cases hc
def ct84 : Ct := { f := 84, ps := [.v true .ro ls170, .v true .ro ls170], rs := [(false, [.bool])], shared := false, pre := fun (q : Fld × Fld) => pEq q.1 q.2, F := fun (q : Fld × Fld) => eqF q.1 q.2 }
def st84 : List (EqStep Fld) := [.ne (fun (x y : Fld) => x.1 ≠ y.1), .ne (fun (x y : Fld) => x.2 ≠ y.2)]
def mk84 (a0 : S) (a1 : S) : Fld := (a0, a1)
theorem a84 (x y : Fld) : eqAll x y st84 ↔ x = y := by
  constructor
  · rintro ⟨h0, h1, -⟩
    have h0 : x.1 = y.1 := Classical.byContradiction h0
    have h1 : x.2 = y.2 := Classical.byContradiction h1
    show mk84 (x.1) (x.2) = mk84 (y.1) (y.2)
    rw [h0, h1]
    all_goals rfl
  · rintro rfl
    exact ⟨fun h => h rfl, fun h => h rfl, trivial⟩
theorem w84 (x y : Fld) (h : wd x) : eqFine x y st84 := by
  first | simp only [wd_pair] at h | skip
  simp only [eqFine, st84, wd_pair]
  all_goals simp only [h, and_self]
theorem law84 : ∀ q : Fld × Fld, pEq q.1 q.2 → eqSt q.1 q.2 st84 (fun r => r = eqF q.1 q.2) := fun q hq => eqSt_holds q.1 q.2 st84 (w84 q.1 q.2 hq) (eqF_iff.trans (a84 q.1 q.2).symm)
theorem all84 (w : World) (hJ : J w) : CtAt Try.prog ct84 w :=
  ct_by ok84 (cs84 w hJ) Try.func84 (by kernel_rfl) (H := (hint [])) law84 (by kernel_rfl)
def E77 : Env := { tt, eqs := [], cts := [ct84] }
theorem ok77 : EnvOk Try.prog E77 := ⟨ttOk, by kernel_rfl, rfl, mixOk⟩
theorem cs77 (w0 : World) (hJ : J w0) : EnvCts Try.prog E77 w0 := by
  intro c hc
  rcases List.mem_cons.1 hc with rfl | hc
  · exact fun w hb => all84 w (J_below hJ hb)
  cases hc
def ct77 : Ct := { f := 77, ps := [.v false .ro ls59, .v false .ro ls59], rs := [(false, [.bool])], shared := false, pre := fun (q : (List Fld) × (List Fld)) => pEq q.1 q.2, F := fun (q : (List Fld) × (List Fld)) => eqF q.1 q.2 }
theorem law77 : ∀ q : (List Fld) × (List Fld), pEq q.1 q.2 → eqS (α := Fld) Dft.dft (fun a b => pEq a b) (fun a b => eqF a b) q.1 q.2 (fun r => r = eqF q.1 q.2) := fun q hq => eqS_holds (α := Fld) Dft.dft (fun a b => pEq a b) (fun a b => eqF a b) q.1 q.2 hq.1 (fun i a _ h => hq.2 i a h) (fun _ _ => eqF_iff) eqF_iff
theorem all77 (w : World) (hJ : J w) : CtAt Try.prog ct77 w :=
  ct_by ok77 (cs77 w hJ) Try.func77 (by kernel_rfl) (H := (hint [(4, [.val 5 (.int .i64)])])) law77 (by kernel_rfl)
def E64 : Env := { tt, eqs := [], cts := [ct77] }
theorem ok64 : EnvOk Try.prog E64 := ⟨ttOk, by kernel_rfl, rfl, mixOk⟩
theorem cs64 (w0 : World) (hJ : J w0) : EnvCts Try.prog E64 w0 := by
  intro c hc
  rcases List.mem_cons.1 hc with rfl | hc
  · exact fun w hb => all77 w (J_below hJ hb)
  cases hc
def ct64 : Ct := { f := 64, ps := [.v true .ro ls61, .v true .ro ls61], rs := [(false, [.bool])], shared := false, pre := fun (q : Req × Req) => pEq q.1 q.2, F := fun (q : Req × Req) => eqF q.1 q.2 }
def st64 : List (EqStep Req) := [.ne (fun (x y : Req) => x.1 ≠ y.1), .ne (fun (x y : Req) => x.2.1 ≠ y.2.1), .call (fun (x _ : Req) => wd (x.2.2.1 : (List Fld))) (fun (x y : Req) => eqF (x.2.2.1 : (List Fld)) y.2.2.1), .ne (fun (x y : Req) => x.2.2.2 ≠ y.2.2.2)]
def mk64 (a0 : S) (a1 : S) (a2 : (List Fld)) (a3 : S) : Req := (a0, a1, a2, a3)
theorem a64 (x y : Req) : eqAll x y st64 ↔ x = y := by
  constructor
  · rintro ⟨h0, h1, h2, h3, -⟩
    have h0 : x.1 = y.1 := Classical.byContradiction h0
    have h1 : x.2.1 = y.2.1 := Classical.byContradiction h1
    have h2 : (x.2.2.1 : (List Fld)) = y.2.2.1 := eqF_iff.1 h2
    have h3 : x.2.2.2 = y.2.2.2 := Classical.byContradiction h3
    show mk64 (x.1) (x.2.1) (x.2.2.1) (x.2.2.2) = mk64 (y.1) (y.2.1) (y.2.2.1) (y.2.2.2)
    rw [h0, h1, h2, h3]
    all_goals rfl
  · rintro rfl
    exact ⟨fun h => h rfl, fun h => h rfl, eqF_iff.2 rfl, fun h => h rfl, trivial⟩
theorem w64 (x y : Req) (h : wd x) : eqFine x y st64 := by
  first | simp only [wd_pair] at h | skip
  simp only [eqFine, st64, wd_pair]
  all_goals simp only [h, and_self]
theorem law64 : ∀ q : Req × Req, pEq q.1 q.2 → eqSt q.1 q.2 st64 (fun r => r = eqF q.1 q.2) := fun q hq => eqSt_holds q.1 q.2 st64 (w64 q.1 q.2 hq) (eqF_iff.trans (a64 q.1 q.2).symm)
theorem all64 (w : World) (hJ : J w) : CtAt Try.prog ct64 w :=
  ct_by ok64 (cs64 w hJ) Try.func64 (by kernel_rfl) (H := (hint [])) law64 (by kernel_rfl)
def E66 : Env := { tt, eqs := [], cts := [ct77] }
theorem ok66 : EnvOk Try.prog E66 := ⟨ttOk, by kernel_rfl, rfl, mixOk⟩
theorem cs66 (w0 : World) (hJ : J w0) : EnvCts Try.prog E66 w0 := by
  intro c hc
  rcases List.mem_cons.1 hc with rfl | hc
  · exact fun w hb => all77 w (J_below hJ hb)
  cases hc
def ct66 : Ct := { f := 66, ps := [.v true .ro ls63, .v true .ro ls63], rs := [(false, [.bool])], shared := false, pre := fun (q : Rsp × Rsp) => pEq q.1 q.2, F := fun (q : Rsp × Rsp) => eqF q.1 q.2 }
def st66 : List (EqStep Rsp) := [.ne (fun (x y : Rsp) => x.1 ≠ y.1), .call (fun (x _ : Rsp) => wd (x.2.1 : (List Fld))) (fun (x y : Rsp) => eqF (x.2.1 : (List Fld)) y.2.1), .ne (fun (x y : Rsp) => x.2.2 ≠ y.2.2)]
def mk66 (a0 : Int) (a1 : (List Fld)) (a2 : S) : Rsp := (a0, a1, a2)
theorem a66 (x y : Rsp) : eqAll x y st66 ↔ x = y := by
  constructor
  · rintro ⟨h0, h1, h2, -⟩
    have h0 : x.1 = y.1 := Classical.byContradiction h0
    have h1 : (x.2.1 : (List Fld)) = y.2.1 := eqF_iff.1 h1
    have h2 : x.2.2 = y.2.2 := Classical.byContradiction h2
    show mk66 (x.1) (x.2.1) (x.2.2) = mk66 (y.1) (y.2.1) (y.2.2)
    rw [h0, h1, h2]
    all_goals rfl
  · rintro rfl
    exact ⟨fun h => h rfl, eqF_iff.2 rfl, fun h => h rfl, trivial⟩
theorem w66 (x y : Rsp) (h : wd x) : eqFine x y st66 := by
  first | simp only [wd_pair] at h | skip
  simp only [eqFine, st66, wd_pair]
  all_goals simp only [h, and_self]
theorem law66 : ∀ q : Rsp × Rsp, pEq q.1 q.2 → eqSt q.1 q.2 st66 (fun r => r = eqF q.1 q.2) := fun q hq => eqSt_holds q.1 q.2 st66 (w66 q.1 q.2 hq) (eqF_iff.trans (a66 q.1 q.2).symm)
theorem all66 (w : World) (hJ : J w) : CtAt Try.prog ct66 w :=
  ct_by ok66 (cs66 w hJ) Try.func66 (by kernel_rfl) (H := (hint [])) law66 (by kernel_rfl)
def E65 : Env := { tt, eqs := [], cts := [ct77, ct66] }
theorem ok65 : EnvOk Try.prog E65 := ⟨ttOk, by kernel_rfl, rfl, mixOk⟩
theorem cs65 (w0 : World) (hJ : J w0) : EnvCts Try.prog E65 w0 := by
  intro c hc
  rcases List.mem_cons.1 hc with rfl | hc
  · exact fun w hb => all77 w (J_below hJ hb)
  rcases List.mem_cons.1 hc with rfl | hc
  · exact fun w hb => all66 w (J_below hJ hb)
  cases hc
def ct65 : Ct := { f := 65, ps := [.v true .ro ls65, .v true .ro ls65], rs := [(false, [.bool])], shared := false, pre := fun (q : Sto × Sto) => pEq q.1 q.2, F := fun (q : Sto × Sto) => eqF q.1 q.2 }
def st65 : List (EqStep Sto) := [.ne (fun (x y : Sto) => x.1 ≠ y.1), .call (fun (x _ : Sto) => wd (x.2.1 : (List Fld))) (fun (x y : Sto) => eqF (x.2.1 : (List Fld)) y.2.1), .call (fun (x _ : Sto) => wd ((x.2.2.1, x.2.2.2.1, x.2.2.2.2.1) : Rsp)) (fun (x y : Sto) => eqF ((x.2.2.1, x.2.2.2.1, x.2.2.2.2.1) : Rsp) (y.2.2.1, y.2.2.2.1, y.2.2.2.2.1)), .ne (fun (x y : Sto) => x.2.2.2.2.2.1 ≠ y.2.2.2.2.2.1), .ne (fun (x y : Sto) => x.2.2.2.2.2.2 ≠ y.2.2.2.2.2.2)]
def mk65 (a0 : S) (a1 : (List Fld)) (a2 : Rsp) (a3 : Int) (a4 : Int) : Sto := (a0, a1, a2.1, a2.2.1, a2.2.2, a3, a4)
theorem a65 (x y : Sto) : eqAll x y st65 ↔ x = y := by
  constructor
  · rintro ⟨h0, h1, h2, h3, h4, -⟩
    have h0 : x.1 = y.1 := Classical.byContradiction h0
    have h1 : (x.2.1 : (List Fld)) = y.2.1 := eqF_iff.1 h1
    have h2 : ((x.2.2.1, x.2.2.2.1, x.2.2.2.2.1) : Rsp) = (y.2.2.1, y.2.2.2.1, y.2.2.2.2.1) := eqF_iff.1 h2
    have h3 : x.2.2.2.2.2.1 = y.2.2.2.2.2.1 := Classical.byContradiction h3
    have h4 : x.2.2.2.2.2.2 = y.2.2.2.2.2.2 := Classical.byContradiction h4
    show mk65 (x.1) (x.2.1) ((x.2.2.1, x.2.2.2.1, x.2.2.2.2.1)) (x.2.2.2.2.2.1) (x.2.2.2.2.2.2) = mk65 (y.1) (y.2.1) ((y.2.2.1, y.2.2.2.1, y.2.2.2.2.1)) (y.2.2.2.2.2.1) (y.2.2.2.2.2.2)
    rw [h0, h1, h2, h3, h4]
    all_goals rfl
  · rintro rfl
    exact ⟨fun h => h rfl, eqF_iff.2 rfl, eqF_iff.2 rfl, fun h => h rfl, fun h => h rfl, trivial⟩
theorem w65 (x y : Sto) (h : wd x) : eqFine x y st65 := by
  first | simp only [wd_pair] at h | skip
  simp only [eqFine, st65, wd_pair]
  all_goals simp only [h, and_self]
theorem law65 : ∀ q : Sto × Sto, pEq q.1 q.2 → eqSt q.1 q.2 st65 (fun r => r = eqF q.1 q.2) := fun q hq => eqSt_holds q.1 q.2 st65 (w65 q.1 q.2 hq) (eqF_iff.trans (a65 q.1 q.2).symm)
theorem all65 (w : World) (hJ : J w) : CtAt Try.prog ct65 w :=
  ct_by ok65 (cs65 w hJ) Try.func65 (by kernel_rfl) (H := (hint [])) law65 (by kernel_rfl)
def E78 : Env := { tt, eqs := [], cts := [ct66] }
theorem ok78 : EnvOk Try.prog E78 := ⟨ttOk, by kernel_rfl, rfl, mixOk⟩
theorem cs78 (w0 : World) (hJ : J w0) : EnvCts Try.prog E78 w0 := by
  intro c hc
  rcases List.mem_cons.1 hc with rfl | hc
  · exact fun w hb => all66 w (J_below hJ hb)
  cases hc
def ct78 : Ct := { f := 78, ps := [.v true .ro ls158, .v true .ro ls158], rs := [(false, [.bool])], shared := false, pre := fun (q : Tld × Tld) => pEq q.1 q.2, F := fun (q : Tld × Tld) => eqF q.1 q.2 }
def st78 : List (EqStep Tld) := [.ne (fun (x y : Tld) => x.1 ≠ y.1), .call (fun (x _ : Tld) => wd (x.2 : Rsp)) (fun (x y : Tld) => eqF (x.2 : Rsp) y.2)]
def mk78 (a0 : Int) (a1 : Rsp) : Tld := (a0, a1.1, a1.2.1, a1.2.2)
theorem a78 (x y : Tld) : eqAll x y st78 ↔ x = y := by
  constructor
  · rintro ⟨h0, h1, -⟩
    have h0 : x.1 = y.1 := Classical.byContradiction h0
    have h1 : (x.2 : Rsp) = y.2 := eqF_iff.1 h1
    show mk78 (x.1) (x.2) = mk78 (y.1) (y.2)
    rw [h0, h1]
    all_goals rfl
  · rintro rfl
    exact ⟨fun h => h rfl, eqF_iff.2 rfl, trivial⟩
theorem w78 (x y : Tld) (h : wd x) : eqFine x y st78 := by
  first | simp only [wd_pair] at h | skip
  simp only [eqFine, st78, wd_pair]
  all_goals simp only [h, and_self]
theorem law78 : ∀ q : Tld × Tld, pEq q.1 q.2 → eqSt q.1 q.2 st78 (fun r => r = eqF q.1 q.2) := fun q hq => eqSt_holds q.1 q.2 st78 (w78 q.1 q.2 hq) (eqF_iff.trans (a78 q.1 q.2).symm)
theorem all78 (w : World) (hJ : J w) : CtAt Try.prog ct78 w :=
  ct_by ok78 (cs78 w hJ) Try.func78 (by kernel_rfl) (H := (hint [])) law78 (by kernel_rfl)
def E67 : Env := { tt, eqs := [], cts := [ct78] }
theorem ok67 : EnvOk Try.prog E67 := ⟨ttOk, by kernel_rfl, rfl, mixOk⟩
theorem cs67 (w0 : World) (hJ : J w0) : EnvCts Try.prog E67 w0 := by
  intro c hc
  rcases List.mem_cons.1 hc with rfl | hc
  · exact fun w hb => all78 w (J_below hJ hb)
  cases hc
def ct67 : Ct := { f := 67, ps := [.v false .ro ls66, .v false .ro ls66], rs := [(false, [.bool])], shared := false, pre := fun (q : (List Tld) × (List Tld)) => pEq q.1 q.2, F := fun (q : (List Tld) × (List Tld)) => eqF q.1 q.2 }
theorem law67 : ∀ q : (List Tld) × (List Tld), pEq q.1 q.2 → eqS (α := Tld) Dft.dft (fun a b => pEq a b) (fun a b => eqF a b) q.1 q.2 (fun r => r = eqF q.1 q.2) := fun q hq => eqS_holds (α := Tld) Dft.dft (fun a b => pEq a b) (fun a b => eqF a b) q.1 q.2 hq.1 (fun i a _ h => hq.2 i a h) (fun _ _ => eqF_iff) eqF_iff
theorem all67 (w : World) (hJ : J w) : CtAt Try.prog ct67 w :=
  ct_by ok67 (cs67 w hJ) Try.func67 (by kernel_rfl) (H := (hint [(4, [.val 5 (.int .i64)])])) law67 (by kernel_rfl)
def E43 : Env := { tt, eqs := [], cts := [ct64, ct65, ct66, ct67] }
theorem ok43 : EnvOk Try.prog E43 := ⟨ttOk, by kernel_rfl, rfl, mixOk⟩
theorem cs43 (w0 : World) (hJ : J w0) : EnvCts Try.prog E43 w0 := by
  intro c hc
  rcases List.mem_cons.1 hc with rfl | hc
  · exact fun w hb => all64 w (J_below hJ hb)
  rcases List.mem_cons.1 hc with rfl | hc
  · exact fun w hb => all65 w (J_below hJ hb)
  rcases List.mem_cons.1 hc with rfl | hc
  · exact fun w hb => all66 w (J_below hJ hb)
  rcases List.mem_cons.1 hc with rfl | hc
  · exact fun w hb => all67 w (J_below hJ hb)
  cases hc
def ct43 : Ct := { f := 43, ps := [.v true .ro ls68, .v true .ro ls68], rs := [(false, [.bool])], shared := false, pre := fun (q : Cnn × Cnn) => pEq q.1 q.2, F := fun (q : Cnn × Cnn) => eqF q.1 q.2 }
def st43 : List (EqStep Cnn) := [.ne (fun (x y : Cnn) => x.1 ≠ y.1), .ne (fun (x y : Cnn) => x.2.1 ≠ y.2.1), .ne (fun (x y : Cnn) => x.2.2.1 ≠ y.2.2.1), .call (fun (x _ : Cnn) => wd ((x.2.2.2.1, x.2.2.2.2.1, x.2.2.2.2.2.1, x.2.2.2.2.2.2.1) : Req)) (fun (x y : Cnn) => eqF ((x.2.2.2.1, x.2.2.2.2.1, x.2.2.2.2.2.1, x.2.2.2.2.2.2.1) : Req) (y.2.2.2.1, y.2.2.2.2.1, y.2.2.2.2.2.1, y.2.2.2.2.2.2.1)), .call (fun (x _ : Cnn) => wd ((x.2.2.2.2.2.2.2.1, x.2.2.2.2.2.2.2.2.1, x.2.2.2.2.2.2.2.2.2.1, x.2.2.2.2.2.2.2.2.2.2.1) : Req)) (fun (x y : Cnn) => eqF ((x.2.2.2.2.2.2.2.1, x.2.2.2.2.2.2.2.2.1, x.2.2.2.2.2.2.2.2.2.1, x.2.2.2.2.2.2.2.2.2.2.1) : Req) (y.2.2.2.2.2.2.2.1, y.2.2.2.2.2.2.2.2.1, y.2.2.2.2.2.2.2.2.2.1, y.2.2.2.2.2.2.2.2.2.2.1)), .call (fun (x _ : Cnn) => wd ((x.2.2.2.2.2.2.2.2.2.2.2.1, x.2.2.2.2.2.2.2.2.2.2.2.2.1, x.2.2.2.2.2.2.2.2.2.2.2.2.2.1, x.2.2.2.2.2.2.2.2.2.2.2.2.2.2.1, x.2.2.2.2.2.2.2.2.2.2.2.2.2.2.2.1, x.2.2.2.2.2.2.2.2.2.2.2.2.2.2.2.2.1, x.2.2.2.2.2.2.2.2.2.2.2.2.2.2.2.2.2.1) : Sto)) (fun (x y : Cnn) => eqF ((x.2.2.2.2.2.2.2.2.2.2.2.1, x.2.2.2.2.2.2.2.2.2.2.2.2.1, x.2.2.2.2.2.2.2.2.2.2.2.2.2.1, x.2.2.2.2.2.2.2.2.2.2.2.2.2.2.1, x.2.2.2.2.2.2.2.2.2.2.2.2.2.2.2.1, x.2.2.2.2.2.2.2.2.2.2.2.2.2.2.2.2.1, x.2.2.2.2.2.2.2.2.2.2.2.2.2.2.2.2.2.1) : Sto) (y.2.2.2.2.2.2.2.2.2.2.2.1, y.2.2.2.2.2.2.2.2.2.2.2.2.1, y.2.2.2.2.2.2.2.2.2.2.2.2.2.1, y.2.2.2.2.2.2.2.2.2.2.2.2.2.2.1, y.2.2.2.2.2.2.2.2.2.2.2.2.2.2.2.1, y.2.2.2.2.2.2.2.2.2.2.2.2.2.2.2.2.1, y.2.2.2.2.2.2.2.2.2.2.2.2.2.2.2.2.2.1)), .ne (fun (x y : Cnn) => x.2.2.2.2.2.2.2.2.2.2.2.2.2.2.2.2.2.2.1 ≠ y.2.2.2.2.2.2.2.2.2.2.2.2.2.2.2.2.2.2.1), .ne (fun (x y : Cnn) => x.2.2.2.2.2.2.2.2.2.2.2.2.2.2.2.2.2.2.2.1 ≠ y.2.2.2.2.2.2.2.2.2.2.2.2.2.2.2.2.2.2.2.1), .ne (fun (x y : Cnn) => x.2.2.2.2.2.2.2.2.2.2.2.2.2.2.2.2.2.2.2.2.1 ≠ y.2.2.2.2.2.2.2.2.2.2.2.2.2.2.2.2.2.2.2.2.1), .ne (fun (x y : Cnn) => x.2.2.2.2.2.2.2.2.2.2.2.2.2.2.2.2.2.2.2.2.2.1 ≠ y.2.2.2.2.2.2.2.2.2.2.2.2.2.2.2.2.2.2.2.2.2.1), .ne (fun (x y : Cnn) => x.2.2.2.2.2.2.2.2.2.2.2.2.2.2.2.2.2.2.2.2.2.2.1 ≠ y.2.2.2.2.2.2.2.2.2.2.2.2.2.2.2.2.2.2.2.2.2.2.1), .ne (fun (x y : Cnn) => x.2.2.2.2.2.2.2.2.2.2.2.2.2.2.2.2.2.2.2.2.2.2.2.1 ≠ y.2.2.2.2.2.2.2.2.2.2.2.2.2.2.2.2.2.2.2.2.2.2.2.1), .call (fun (x _ : Cnn) => wd ((x.2.2.2.2.2.2.2.2.2.2.2.2.2.2.2.2.2.2.2.2.2.2.2.2.1, x.2.2.2.2.2.2.2.2.2.2.2.2.2.2.2.2.2.2.2.2.2.2.2.2.2.1, x.2.2.2.2.2.2.2.2.2.2.2.2.2.2.2.2.2.2.2.2.2.2.2.2.2.2.1) : Rsp)) (fun (x y : Cnn) => eqF ((x.2.2.2.2.2.2.2.2.2.2.2.2.2.2.2.2.2.2.2.2.2.2.2.2.1, x.2.2.2.2.2.2.2.2.2.2.2.2.2.2.2.2.2.2.2.2.2.2.2.2.2.1, x.2.2.2.2.2.2.2.2.2.2.2.2.2.2.2.2.2.2.2.2.2.2.2.2.2.2.1) : Rsp) (y.2.2.2.2.2.2.2.2.2.2.2.2.2.2.2.2.2.2.2.2.2.2.2.2.1, y.2.2.2.2.2.2.2.2.2.2.2.2.2.2.2.2.2.2.2.2.2.2.2.2.2.1, y.2.2.2.2.2.2.2.2.2.2.2.2.2.2.2.2.2.2.2.2.2.2.2.2.2.2.1)), .call (fun (x _ : Cnn) => wd (x.2.2.2.2.2.2.2.2.2.2.2.2.2.2.2.2.2.2.2.2.2.2.2.2.2.2.2 : (List Tld))) (fun (x y : Cnn) => eqF (x.2.2.2.2.2.2.2.2.2.2.2.2.2.2.2.2.2.2.2.2.2.2.2.2.2.2.2 : (List Tld)) y.2.2.2.2.2.2.2.2.2.2.2.2.2.2.2.2.2.2.2.2.2.2.2.2.2.2.2)]
def mk43 (a0 : Int) (a1 : S) (a2 : Int) (a3 : Req) (a4 : Req) (a5 : Sto) (a6 : Bool) (a7 : Int) (a8 : Int) (a9 : Int) (a10 : Int) (a11 : Bool) (a12 : Rsp) (a13 : (List Tld)) : Cnn := (a0, a1, a2, a3.1, a3.2.1, a3.2.2.1, a3.2.2.2, a4.1, a4.2.1, a4.2.2.1, a4.2.2.2, a5.1, a5.2.1, a5.2.2.1, a5.2.2.2.1, a5.2.2.2.2.1, a5.2.2.2.2.2.1, a5.2.2.2.2.2.2, a6, a7, a8, a9, a10, a11, a12.1, a12.2.1, a12.2.2, a13)
theorem a43 (x y : Cnn) : eqAll x y st43 ↔ x = y := by
  constructor
  · rintro ⟨h0, h1, h2, h3, h4, h5, h6, h7, h8, h9, h10, h11, h12, h13, -⟩
    have h0 : x.1 = y.1 := Classical.byContradiction h0
    have h1 : x.2.1 = y.2.1 := Classical.byContradiction h1
    have h2 : x.2.2.1 = y.2.2.1 := Classical.byContradiction h2
    have h3 : ((x.2.2.2.1, x.2.2.2.2.1, x.2.2.2.2.2.1, x.2.2.2.2.2.2.1) : Req) = (y.2.2.2.1, y.2.2.2.2.1, y.2.2.2.2.2.1, y.2.2.2.2.2.2.1) := eqF_iff.1 h3
    have h4 : ((x.2.2.2.2.2.2.2.1, x.2.2.2.2.2.2.2.2.1, x.2.2.2.2.2.2.2.2.2.1, x.2.2.2.2.2.2.2.2.2.2.1) : Req) = (y.2.2.2.2.2.2.2.1, y.2.2.2.2.2.2.2.2.1, y.2.2.2.2.2.2.2.2.2.1, y.2.2.2.2.2.2.2.2.2.2.1) := eqF_iff.1 h4
    have h5 : ((x.2.2.2.2.2.2.2.2.2.2.2.1, x.2.2.2.2.2.2.2.2.2.2.2.2.1, x.2.2.2.2.2.2.2.2.2.2.2.2.2.1, x.2.2.2.2.2.2.2.2.2.2.2.2.2.2.1, x.2.2.2.2.2.2.2.2.2.2.2.2.2.2.2.1, x.2.2.2.2.2.2.2.2.2.2.2.2.2.2.2.2.1, x.2.2.2.2.2.2.2.2.2.2.2.2.2.2.2.2.2.1) : Sto) = (y.2.2.2.2.2.2.2.2.2.2.2.1, y.2.2.2.2.2.2.2.2.2.2.2.2.1, y.2.2.2.2.2.2.2.2.2.2.2.2.2.1, y.2.2.2.2.2.2.2.2.2.2.2.2.2.2.1, y.2.2.2.2.2.2.2.2.2.2.2.2.2.2.2.1, y.2.2.2.2.2.2.2.2.2.2.2.2.2.2.2.2.1, y.2.2.2.2.2.2.2.2.2.2.2.2.2.2.2.2.2.1) := eqF_iff.1 h5
    have h6 : x.2.2.2.2.2.2.2.2.2.2.2.2.2.2.2.2.2.2.1 = y.2.2.2.2.2.2.2.2.2.2.2.2.2.2.2.2.2.2.1 := Classical.byContradiction h6
    have h7 : x.2.2.2.2.2.2.2.2.2.2.2.2.2.2.2.2.2.2.2.1 = y.2.2.2.2.2.2.2.2.2.2.2.2.2.2.2.2.2.2.2.1 := Classical.byContradiction h7
    have h8 : x.2.2.2.2.2.2.2.2.2.2.2.2.2.2.2.2.2.2.2.2.1 = y.2.2.2.2.2.2.2.2.2.2.2.2.2.2.2.2.2.2.2.2.1 := Classical.byContradiction h8
    have h9 : x.2.2.2.2.2.2.2.2.2.2.2.2.2.2.2.2.2.2.2.2.2.1 = y.2.2.2.2.2.2.2.2.2.2.2.2.2.2.2.2.2.2.2.2.2.1 := Classical.byContradiction h9
    have h10 : x.2.2.2.2.2.2.2.2.2.2.2.2.2.2.2.2.2.2.2.2.2.2.1 = y.2.2.2.2.2.2.2.2.2.2.2.2.2.2.2.2.2.2.2.2.2.2.1 := Classical.byContradiction h10
    have h11 : x.2.2.2.2.2.2.2.2.2.2.2.2.2.2.2.2.2.2.2.2.2.2.2.1 = y.2.2.2.2.2.2.2.2.2.2.2.2.2.2.2.2.2.2.2.2.2.2.2.1 := Classical.byContradiction h11
    have h12 : ((x.2.2.2.2.2.2.2.2.2.2.2.2.2.2.2.2.2.2.2.2.2.2.2.2.1, x.2.2.2.2.2.2.2.2.2.2.2.2.2.2.2.2.2.2.2.2.2.2.2.2.2.1, x.2.2.2.2.2.2.2.2.2.2.2.2.2.2.2.2.2.2.2.2.2.2.2.2.2.2.1) : Rsp) = (y.2.2.2.2.2.2.2.2.2.2.2.2.2.2.2.2.2.2.2.2.2.2.2.2.1, y.2.2.2.2.2.2.2.2.2.2.2.2.2.2.2.2.2.2.2.2.2.2.2.2.2.1, y.2.2.2.2.2.2.2.2.2.2.2.2.2.2.2.2.2.2.2.2.2.2.2.2.2.2.1) := eqF_iff.1 h12
    have h13 : (x.2.2.2.2.2.2.2.2.2.2.2.2.2.2.2.2.2.2.2.2.2.2.2.2.2.2.2 : (List Tld)) = y.2.2.2.2.2.2.2.2.2.2.2.2.2.2.2.2.2.2.2.2.2.2.2.2.2.2.2 := eqF_iff.1 h13
    show mk43 (x.1) (x.2.1) (x.2.2.1) ((x.2.2.2.1, x.2.2.2.2.1, x.2.2.2.2.2.1, x.2.2.2.2.2.2.1)) ((x.2.2.2.2.2.2.2.1, x.2.2.2.2.2.2.2.2.1, x.2.2.2.2.2.2.2.2.2.1, x.2.2.2.2.2.2.2.2.2.2.1)) ((x.2.2.2.2.2.2.2.2.2.2.2.1, x.2.2.2.2.2.2.2.2.2.2.2.2.1, x.2.2.2.2.2.2.2.2.2.2.2.2.2.1, x.2.2.2.2.2.2.2.2.2.2.2.2.2.2.1, x.2.2.2.2.2.2.2.2.2.2.2.2.2.2.2.1, x.2.2.2.2.2.2.2.2.2.2.2.2.2.2.2.2.1, x.2.2.2.2.2.2.2.2.2.2.2.2.2.2.2.2.2.1)) (x.2.2.2.2.2.2.2.2.2.2.2.2.2.2.2.2.2.2.1) (x.2.2.2.2.2.2.2.2.2.2.2.2.2.2.2.2.2.2.2.1) (x.2.2.2.2.2.2.2.2.2.2.2.2.2.2.2.2.2.2.2.2.1) (x.2.2.2.2.2.2.2.2.2.2.2.2.2.2.2.2.2.2.2.2.2.1) (x.2.2.2.2.2.2.2.2.2.2.2.2.2.2.2.2.2.2.2.2.2.2.1) (x.2.2.2.2.2.2.2.2.2.2.2.2.2.2.2.2.2.2.2.2.2.2.2.1) ((x.2.2.2.2.2.2.2.2.2.2.2.2.2.2.2.2.2.2.2.2.2.2.2.2.1, x.2.2.2.2.2.2.2.2.2.2.2.2.2.2.2.2.2.2.2.2.2.2.2.2.2.1, x.2.2.2.2.2.2.2.2.2.2.2.2.2.2.2.2.2.2.2.2.2.2.2.2.2.2.1)) (x.2.2.2.2.2.2.2.2.2.2.2.2.2.2.2.2.2.2.2.2.2.2.2.2.2.2.2) = mk43 (y.1) (y.2.1) (y.2.2.1) ((y.2.2.2.1, y.2.2.2.2.1, y.2.2.2.2.2.1, y.2.2.2.2.2.2.1)) ((y.2.2.2.2.2.2.2.1, y.2.2.2.2.2.2.2.2.1, y.2.2.2.2.2.2.2.2.2.1, y.2.2.2.2.2.2.2.2.2.2.1)) ((y.2.2.2.2.2.2.2.2.2.2.2.1, y.2.2.2.2.2.2.2.2.2.2.2.2.1, y.2.2.2.2.2.2.2.2.2.2.2.2.2.1, y.2.2.2.2.2.2.2.2.2.2.2.2.2.2.1, y.2.2.2.2.2.2.2.2.2.2.2.2.2.2.2.1, y.2.2.2.2.2.2.2.2.2.2.2.2.2.2.2.2.1, y.2.2.2.2.2.2.2.2.2.2.2.2.2.2.2.2.2.1)) (y.2.2.2.2.2.2.2.2.2.2.2.2.2.2.2.2.2.2.1) (y.2.2.2.2.2.2.2.2.2.2.2.2.2.2.2.2.2.2.2.1) (y.2.2.2.2.2.2.2.2.2.2.2.2.2.2.2.2.2.2.2.2.1) (y.2.2.2.2.2.2.2.2.2.2.2.2.2.2.2.2.2.2.2.2.2.1) (y.2.2.2.2.2.2.2.2.2.2.2.2.2.2.2.2.2.2.2.2.2.2.1) (y.2.2.2.2.2.2.2.2.2.2.2.2.2.2.2.2.2.2.2.2.2.2.2.1) ((y.2.2.2.2.2.2.2.2.2.2.2.2.2.2.2.2.2.2.2.2.2.2.2.2.1, y.2.2.2.2.2.2.2.2.2.2.2.2.2.2.2.2.2.2.2.2.2.2.2.2.2.1, y.2.2.2.2.2.2.2.2.2.2.2.2.2.2.2.2.2.2.2.2.2.2.2.2.2.2.1)) (y.2.2.2.2.2.2.2.2.2.2.2.2.2.2.2.2.2.2.2.2.2.2.2.2.2.2.2)
    rw [h0, h1, h2, h3, h4, h5, h6, h7, h8, h9, h10, h11, h12, h13]
    all_goals rfl
  · rintro rfl
    exact ⟨fun h => h rfl, fun h => h rfl, fun h => h rfl, eqF_iff.2 rfl, eqF_iff.2 rfl, eqF_iff.2 rfl, fun h => h rfl, fun h => h rfl, fun h => h rfl, fun h => h rfl, fun h => h rfl, fun h => h rfl, eqF_iff.2 rfl, eqF_iff.2 rfl, trivial⟩
theorem w43 (x y : Cnn) (h : wd x) : eqFine x y st43 := by
  first | simp only [wd_pair] at h | skip
  simp only [eqFine, st43, wd_pair]
  all_goals simp only [h, and_self]
theorem law43 : ∀ q : Cnn × Cnn, pEq q.1 q.2 → eqSt q.1 q.2 st43 (fun r => r = eqF q.1 q.2) := fun q hq => eqSt_holds q.1 q.2 st43 (w43 q.1 q.2 hq) (eqF_iff.trans (a43 q.1 q.2).symm)
theorem all43 (w : World) (hJ : J w) : CtAt Try.prog ct43 w :=
  ct_by ok43 (cs43 w hJ) Try.func43 (by kernel_rfl) (H := (hint [])) law43 (by kernel_rfl)
def E24 : Env := { tt, eqs := [], cts := [ct43] }
theorem ok24 : EnvOk Try.prog E24 := ⟨ttOk, by kernel_rfl, rfl, mixOk⟩
theorem cs24 (w0 : World) (hJ : J w0) : EnvCts Try.prog E24 w0 := by
  intro c hc
  rcases List.mem_cons.1 hc with rfl | hc
  · exact fun w hb => all43 w (J_below hJ hb)
  cases hc
def ct24 : Ct := { f := 24, ps := [.v false .ro ls36, .v false .ro ls36], rs := [(false, [.bool])], shared := false, pre := fun (q : (List Cnn) × (List Cnn)) => pEq q.1 q.2, F := fun (q : (List Cnn) × (List Cnn)) => eqF q.1 q.2 }
theorem law24 : ∀ q : (List Cnn) × (List Cnn), pEq q.1 q.2 → eqS (α := Cnn) Dft.dft (fun a b => pEq a b) (fun a b => eqF a b) q.1 q.2 (fun r => r = eqF q.1 q.2) := fun q hq => eqS_holds (α := Cnn) Dft.dft (fun a b => pEq a b) (fun a b => eqF a b) q.1 q.2 hq.1 (fun i a _ h => hq.2 i a h) (fun _ _ => eqF_iff) eqF_iff
theorem all24 (w : World) (hJ : J w) : CtAt Try.prog ct24 w :=
  ct_by ok24 (cs24 w hJ) Try.func24 (by kernel_rfl) (H := (hint [(4, [.val 5 (.int .i64)])])) law24 (by kernel_rfl)
def E85 : Env := { tt, eqs := [], cts := [ct65] }
theorem ok85 : EnvOk Try.prog E85 := ⟨ttOk, by kernel_rfl, rfl, mixOk⟩
theorem cs85 (w0 : World) (hJ : J w0) : EnvCts Try.prog E85 w0 := by
  intro c hc
  rcases List.mem_cons.1 hc with rfl | hc
  · exact fun w hb => all65 w (J_below hJ hb)
  cases hc
def ct85 : Ct := { f := 85, ps := [.v true .ro ls173, .v true .ro ls173], rs := [(false, [.bool])], shared := false, pre := fun (q : Slt × Slt) => pEq q.1 q.2, F := fun (q : Slt × Slt) => eqF q.1 q.2 }
def st85 : List (EqStep Slt) := [.call (fun (x _ : Slt) => wd ((x.1, x.2.1, x.2.2.1, x.2.2.2.1, x.2.2.2.2.1, x.2.2.2.2.2.1, x.2.2.2.2.2.2.1) : Sto)) (fun (x y : Slt) => eqF ((x.1, x.2.1, x.2.2.1, x.2.2.2.1, x.2.2.2.2.1, x.2.2.2.2.2.1, x.2.2.2.2.2.2.1) : Sto) (y.1, y.2.1, y.2.2.1, y.2.2.2.1, y.2.2.2.2.1, y.2.2.2.2.2.1, y.2.2.2.2.2.2.1)), .ne (fun (x y : Slt) => x.2.2.2.2.2.2.2 ≠ y.2.2.2.2.2.2.2)]
def mk85 (a0 : Sto) (a1 : Bool) : Slt := (a0.1, a0.2.1, a0.2.2.1, a0.2.2.2.1, a0.2.2.2.2.1, a0.2.2.2.2.2.1, a0.2.2.2.2.2.2, a1)
theorem a85 (x y : Slt) : eqAll x y st85 ↔ x = y := by
  constructor
  · rintro ⟨h0, h1, -⟩
    have h0 : ((x.1, x.2.1, x.2.2.1, x.2.2.2.1, x.2.2.2.2.1, x.2.2.2.2.2.1, x.2.2.2.2.2.2.1) : Sto) = (y.1, y.2.1, y.2.2.1, y.2.2.2.1, y.2.2.2.2.1, y.2.2.2.2.2.1, y.2.2.2.2.2.2.1) := eqF_iff.1 h0
    have h1 : x.2.2.2.2.2.2.2 = y.2.2.2.2.2.2.2 := Classical.byContradiction h1
    show mk85 ((x.1, x.2.1, x.2.2.1, x.2.2.2.1, x.2.2.2.2.1, x.2.2.2.2.2.1, x.2.2.2.2.2.2.1)) (x.2.2.2.2.2.2.2) = mk85 ((y.1, y.2.1, y.2.2.1, y.2.2.2.1, y.2.2.2.2.1, y.2.2.2.2.2.1, y.2.2.2.2.2.2.1)) (y.2.2.2.2.2.2.2)
    rw [h0, h1]
    all_goals rfl
  · rintro rfl
    exact ⟨eqF_iff.2 rfl, fun h => h rfl, trivial⟩
theorem w85 (x y : Slt) (h : wd x) : eqFine x y st85 := by
  first | simp only [wd_pair] at h | skip
  simp only [eqFine, st85, wd_pair]
  all_goals simp only [h, and_self]
theorem law85 : ∀ q : Slt × Slt, pEq q.1 q.2 → eqSt q.1 q.2 st85 (fun r => r = eqF q.1 q.2) := fun q hq => eqSt_holds q.1 q.2 st85 (w85 q.1 q.2 hq) (eqF_iff.trans (a85 q.1 q.2).symm)
theorem all85 (w : World) (hJ : J w) : CtAt Try.prog ct85 w :=
  ct_by ok85 (cs85 w hJ) Try.func85 (by kernel_rfl) (H := (hint [])) law85 (by kernel_rfl)
def E79 : Env := { tt, eqs := [], cts := [ct85] }
theorem ok79 : EnvOk Try.prog E79 := ⟨ttOk, by kernel_rfl, rfl, mixOk⟩
theorem cs79 (w0 : World) (hJ : J w0) : EnvCts Try.prog E79 w0 := by
  intro c hc
  rcases List.mem_cons.1 hc with rfl | hc
  · exact fun w hb => all85 w (J_below hJ hb)
  cases hc
def ct79 : Ct := { f := 79, ps := [.v false .ro ls135, .v false .ro ls135], rs := [(false, [.bool])], shared := false, pre := fun (q : (List Slt) × (List Slt)) => pEq q.1 q.2, F := fun (q : (List Slt) × (List Slt)) => eqF q.1 q.2 }
theorem law79 : ∀ q : (List Slt) × (List Slt), pEq q.1 q.2 → eqS (α := Slt) Dft.dft (fun a b => pEq a b) (fun a b => eqF a b) q.1 q.2 (fun r => r = eqF q.1 q.2) := fun q hq => eqS_holds (α := Slt) Dft.dft (fun a b => pEq a b) (fun a b => eqF a b) q.1 q.2 hq.1 (fun i a _ h => hq.2 i a h) (fun _ _ => eqF_iff) eqF_iff
theorem all79 (w : World) (hJ : J w) : CtAt Try.prog ct79 w :=
  ct_by ok79 (cs79 w hJ) Try.func79 (by kernel_rfl) (H := (hint [(4, [.val 5 (.int .i64)])])) law79 (by kernel_rfl)
def E68 : Env := { tt, eqs := [], cts := [ct79] }
theorem ok68 : EnvOk Try.prog E68 := ⟨ttOk, by kernel_rfl, rfl, mixOk⟩
theorem cs68 (w0 : World) (hJ : J w0) : EnvCts Try.prog E68 w0 := by
  intro c hc
  rcases List.mem_cons.1 hc with rfl | hc
  · exact fun w hb => all79 w (J_below hJ hb)
  cases hc
def ct68 : Ct := { f := 68, ps := [.v true .ro ls137, .v true .ro ls137], rs := [(false, [.bool])], shared := false, pre := fun (q : Shd × Shd) => pEq q.1 q.2, F := fun (q : Shd × Shd) => eqF q.1 q.2 }
def st68 : List (EqStep Shd) := [.ne (fun (x y : Shd) => x.1 ≠ y.1), .ne (fun (x y : Shd) => x.2.1 ≠ y.2.1), .call (fun (x _ : Shd) => wd (x.2.2.1 : (List Slt))) (fun (x y : Shd) => eqF (x.2.2.1 : (List Slt)) y.2.2.1), .ne (fun (x y : Shd) => x.2.2.2 ≠ y.2.2.2)]
def mk68 (a0 : Int) (a1 : Int) (a2 : (List Slt)) (a3 : Int) : Shd := (a0, a1, a2, a3)
theorem a68 (x y : Shd) : eqAll x y st68 ↔ x = y := by
  constructor
  · rintro ⟨h0, h1, h2, h3, -⟩
    have h0 : x.1 = y.1 := Classical.byContradiction h0
    have h1 : x.2.1 = y.2.1 := Classical.byContradiction h1
    have h2 : (x.2.2.1 : (List Slt)) = y.2.2.1 := eqF_iff.1 h2
    have h3 : x.2.2.2 = y.2.2.2 := Classical.byContradiction h3
    show mk68 (x.1) (x.2.1) (x.2.2.1) (x.2.2.2) = mk68 (y.1) (y.2.1) (y.2.2.1) (y.2.2.2)
    rw [h0, h1, h2, h3]
    all_goals rfl
  · rintro rfl
    exact ⟨fun h => h rfl, fun h => h rfl, eqF_iff.2 rfl, fun h => h rfl, trivial⟩
theorem w68 (x y : Shd) (h : wd x) : eqFine x y st68 := by
  first | simp only [wd_pair] at h | skip
  simp only [eqFine, st68, wd_pair]
  all_goals simp only [h, and_self]
theorem law68 : ∀ q : Shd × Shd, pEq q.1 q.2 → eqSt q.1 q.2 st68 (fun r => r = eqF q.1 q.2) := fun q hq => eqSt_holds q.1 q.2 st68 (w68 q.1 q.2 hq) (eqF_iff.trans (a68 q.1 q.2).symm)
theorem all68 (w : World) (hJ : J w) : CtAt Try.prog ct68 w :=
  ct_by ok68 (cs68 w hJ) Try.func68 (by kernel_rfl) (H := (hint [])) law68 (by kernel_rfl)
def E44 : Env := { tt, eqs := [], cts := [ct68] }
theorem ok44 : EnvOk Try.prog E44 := ⟨ttOk, by kernel_rfl, rfl, mixOk⟩
theorem cs44 (w0 : World) (hJ : J w0) : EnvCts Try.prog E44 w0 := by
  intro c hc
  rcases List.mem_cons.1 hc with rfl | hc
  · exact fun w hb => all68 w (J_below hJ hb)
  cases hc
def ct44 : Ct := { f := 44, ps := [.v false .ro ls37, .v false .ro ls37], rs := [(false, [.bool])], shared := false, pre := fun (q : (List Shd) × (List Shd)) => pEq q.1 q.2, F := fun (q : (List Shd) × (List Shd)) => eqF q.1 q.2 }
theorem law44 : ∀ q : (List Shd) × (List Shd), pEq q.1 q.2 → eqS (α := Shd) Dft.dft (fun a b => pEq a b) (fun a b => eqF a b) q.1 q.2 (fun r => r = eqF q.1 q.2) := fun q hq => eqS_holds (α := Shd) Dft.dft (fun a b => pEq a b) (fun a b => eqF a b) q.1 q.2 hq.1 (fun i a _ h => hq.2 i a h) (fun _ _ => eqF_iff) eqF_iff
theorem all44 (w : World) (hJ : J w) : CtAt Try.prog ct44 w :=
  ct_by ok44 (cs44 w hJ) Try.func44 (by kernel_rfl) (H := (hint [(4, [.val 5 (.int .i64)])])) law44 (by kernel_rfl)
def E69 : Env := { tt, eqs := [], cts := [] }
theorem ok69 : EnvOk Try.prog E69 := ⟨ttOk, by kernel_rfl, rfl, mixOk⟩
theorem cs69 (w0 : World) (hJ : J w0) : EnvCts Try.prog E69 w0 := by
  intro c hc
  cases hc
def ct69 : Ct := { f := 69, ps := [.v true .ro ls139, .v true .ro ls139], rs := [(false, [.bool])], shared := false, pre := fun (q : Gen × Gen) => pEq q.1 q.2, F := fun (q : Gen × Gen) => eqF q.1 q.2 }
def st69 : List (EqStep Gen) := [.ne (fun (x y : Gen) => x.1 ≠ y.1), .ne (fun (x y : Gen) => x.2 ≠ y.2)]
def mk69 (a0 : S) (a1 : Int) : Gen := (a0, a1)
theorem a69 (x y : Gen) : eqAll x y st69 ↔ x = y := by
  constructor
  · rintro ⟨h0, h1, -⟩
    have h0 : x.1 = y.1 := Classical.byContradiction h0
    have h1 : x.2 = y.2 := Classical.byContradiction h1
    show mk69 (x.1) (x.2) = mk69 (y.1) (y.2)
    rw [h0, h1]
    all_goals rfl
  · rintro rfl
    exact ⟨fun h => h rfl, fun h => h rfl, trivial⟩
theorem w69 (x y : Gen) (h : wd x) : eqFine x y st69 := by
  first | simp only [wd_pair] at h | skip
  simp only [eqFine, st69, wd_pair]
  all_goals simp only [h, and_self]
theorem law69 : ∀ q : Gen × Gen, pEq q.1 q.2 → eqSt q.1 q.2 st69 (fun r => r = eqF q.1 q.2) := fun q hq => eqSt_holds q.1 q.2 st69 (w69 q.1 q.2 hq) (eqF_iff.trans (a69 q.1 q.2).symm)
theorem all69 (w : World) (hJ : J w) : CtAt Try.prog ct69 w :=
  ct_by ok69 (cs69 w hJ) Try.func69 (by kernel_rfl) (H := (hint [])) law69 (by kernel_rfl)
def E45 : Env := { tt, eqs := [], cts := [ct69] }
theorem ok45 : EnvOk Try.prog E45 := ⟨ttOk, by kernel_rfl, rfl, mixOk⟩
theorem cs45 (w0 : World) (hJ : J w0) : EnvCts Try.prog E45 w0 := by
  intro c hc
  rcases List.mem_cons.1 hc with rfl | hc
  · exact fun w hb => all69 w (J_below hJ hb)
  cases hc
def ct45 : Ct := { f := 45, ps := [.v false .ro ls38, .v false .ro ls38], rs := [(false, [.bool])], shared := false, pre := fun (q : (List Gen) × (List Gen)) => pEq q.1 q.2, F := fun (q : (List Gen) × (List Gen)) => eqF q.1 q.2 }
theorem law45 : ∀ q : (List Gen) × (List Gen), pEq q.1 q.2 → eqS (α := Gen) Dft.dft (fun a b => pEq a b) (fun a b => eqF a b) q.1 q.2 (fun r => r = eqF q.1 q.2) := fun q hq => eqS_holds (α := Gen) Dft.dft (fun a b => pEq a b) (fun a b => eqF a b) q.1 q.2 hq.1 (fun i a _ h => hq.2 i a h) (fun _ _ => eqF_iff) eqF_iff
theorem all45 (w : World) (hJ : J w) : CtAt Try.prog ct45 w :=
  ct_by ok45 (cs45 w hJ) Try.func45 (by kernel_rfl) (H := (hint [(4, [.val 5 (.int .i64)])])) law45 (by kernel_rfl)
def E25 : Env := { tt, eqs := [], cts := [ct44, ct45] }
theorem ok25 : EnvOk Try.prog E25 := ⟨ttOk, by kernel_rfl, rfl, mixOk⟩
theorem cs25 (w0 : World) (hJ : J w0) : EnvCts Try.prog E25 w0 := by
  intro c hc
  rcases List.mem_cons.1 hc with rfl | hc
  · exact fun w hb => all44 w (J_below hJ hb)
  rcases List.mem_cons.1 hc with rfl | hc
  · exact fun w hb => all45 w (J_below hJ hb)
  cases hc
def ct25 : Ct := { f := 25, ps := [.v true .ro ls40, .v true .ro ls40], rs := [(false, [.bool])], shared := false, pre := fun (q : Cch × Cch) => pEq q.1 q.2, F := fun (q : Cch × Cch) => eqF q.1 q.2 }
def st25 : List (EqStep Cch) := [.call (fun (x _ : Cch) => wd (x.1 : (List Shd))) (fun (x y : Cch) => eqF (x.1 : (List Shd)) y.1), .call (fun (x _ : Cch) => wd (x.2 : (List Gen))) (fun (x y : Cch) => eqF (x.2 : (List Gen)) y.2)]
def mk25 (a0 : (List Shd)) (a1 : (List Gen)) : Cch := (a0, a1)
theorem a25 (x y : Cch) : eqAll x y st25 ↔ x = y := by
  constructor
  · rintro ⟨h0, h1, -⟩
    have h0 : (x.1 : (List Shd)) = y.1 := eqF_iff.1 h0
    have h1 : (x.2 : (List Gen)) = y.2 := eqF_iff.1 h1
    show mk25 (x.1) (x.2) = mk25 (y.1) (y.2)
    rw [h0, h1]
    all_goals rfl
  · rintro rfl
    exact ⟨eqF_iff.2 rfl, eqF_iff.2 rfl, trivial⟩
theorem w25 (x y : Cch) (h : wd x) : eqFine x y st25 := by
  first | simp only [wd_pair] at h | skip
  simp only [eqFine, st25, wd_pair]
  all_goals simp only [h, and_self]
theorem law25 : ∀ q : Cch × Cch, pEq q.1 q.2 → eqSt q.1 q.2 st25 (fun r => r = eqF q.1 q.2) := fun q hq => eqSt_holds q.1 q.2 st25 (w25 q.1 q.2 hq) (eqF_iff.trans (a25 q.1 q.2).symm)
theorem all25 (w : World) (hJ : J w) : CtAt Try.prog ct25 w :=
  ct_by ok25 (cs25 w hJ) Try.func25 (by kernel_rfl) (H := (hint [])) law25 (by kernel_rfl)
def E46 : Env := { tt, eqs := [], cts := [ct64, ct66] }
theorem ok46 : EnvOk Try.prog E46 := ⟨ttOk, by kernel_rfl, rfl, mixOk⟩
theorem cs46 (w0 : World) (hJ : J w0) : EnvCts Try.prog E46 w0 := by
  intro c hc
  rcases List.mem_cons.1 hc with rfl | hc
  · exact fun w hb => all64 w (J_below hJ hb)
  rcases List.mem_cons.1 hc with rfl | hc
  · exact fun w hb => all66 w (J_below hJ hb)
  cases hc
def ct46 : Ct := { f := 46, ps := [.v true .ro ls70, .v true .ro ls70], rs := [(false, [.bool])], shared := false, pre := fun (q : Flt × Flt) => pEq q.1 q.2, F := fun (q : Flt × Flt) => eqF q.1 q.2 }
def st46 : List (EqStep Flt) := [.ne (fun (x y : Flt) => x.1 ≠ y.1), .ne (fun (x y : Flt) => x.2.1 ≠ y.2.1), .ne (fun (x y : Flt) => x.2.2.1 ≠ y.2.2.1), .ne (fun (x y : Flt) => x.2.2.2.1 ≠ y.2.2.2.1), .ne (fun (x y : Flt) => x.2.2.2.2.1 ≠ y.2.2.2.2.1), .call (fun (x _ : Flt) => wd ((x.2.2.2.2.2.1, x.2.2.2.2.2.2.1, x.2.2.2.2.2.2.2.1, x.2.2.2.2.2.2.2.2.1) : Req)) (fun (x y : Flt) => eqF ((x.2.2.2.2.2.1, x.2.2.2.2.2.2.1, x.2.2.2.2.2.2.2.1, x.2.2.2.2.2.2.2.2.1) : Req) (y.2.2.2.2.2.1, y.2.2.2.2.2.2.1, y.2.2.2.2.2.2.2.1, y.2.2.2.2.2.2.2.2.1)), .call (fun (x _ : Flt) => wd ((x.2.2.2.2.2.2.2.2.2.1, x.2.2.2.2.2.2.2.2.2.2.1, x.2.2.2.2.2.2.2.2.2.2.2.1) : Rsp)) (fun (x y : Flt) => eqF ((x.2.2.2.2.2.2.2.2.2.1, x.2.2.2.2.2.2.2.2.2.2.1, x.2.2.2.2.2.2.2.2.2.2.2.1) : Rsp) (y.2.2.2.2.2.2.2.2.2.1, y.2.2.2.2.2.2.2.2.2.2.1, y.2.2.2.2.2.2.2.2.2.2.2.1)), .ne (fun (x y : Flt) => x.2.2.2.2.2.2.2.2.2.2.2.2.1 ≠ y.2.2.2.2.2.2.2.2.2.2.2.2.1), .ne (fun (x y : Flt) => x.2.2.2.2.2.2.2.2.2.2.2.2.2 ≠ y.2.2.2.2.2.2.2.2.2.2.2.2.2)]
def mk46 (a0 : S) (a1 : Bool) (a2 : Int) (a3 : Bool) (a4 : Bool) (a5 : Req) (a6 : Rsp) (a7 : Int) (a8 : Int) : Flt := (a0, a1, a2, a3, a4, a5.1, a5.2.1, a5.2.2.1, a5.2.2.2, a6.1, a6.2.1, a6.2.2, a7, a8)
theorem a46 (x y : Flt) : eqAll x y st46 ↔ x = y := by
  constructor
  · rintro ⟨h0, h1, h2, h3, h4, h5, h6, h7, h8, -⟩
    have h0 : x.1 = y.1 := Classical.byContradiction h0
    have h1 : x.2.1 = y.2.1 := Classical.byContradiction h1
    have h2 : x.2.2.1 = y.2.2.1 := Classical.byContradiction h2
    have h3 : x.2.2.2.1 = y.2.2.2.1 := Classical.byContradiction h3
    have h4 : x.2.2.2.2.1 = y.2.2.2.2.1 := Classical.byContradiction h4
    have h5 : ((x.2.2.2.2.2.1, x.2.2.2.2.2.2.1, x.2.2.2.2.2.2.2.1, x.2.2.2.2.2.2.2.2.1) : Req) = (y.2.2.2.2.2.1, y.2.2.2.2.2.2.1, y.2.2.2.2.2.2.2.1, y.2.2.2.2.2.2.2.2.1) := eqF_iff.1 h5
    have h6 : ((x.2.2.2.2.2.2.2.2.2.1, x.2.2.2.2.2.2.2.2.2.2.1, x.2.2.2.2.2.2.2.2.2.2.2.1) : Rsp) = (y.2.2.2.2.2.2.2.2.2.1, y.2.2.2.2.2.2.2.2.2.2.1, y.2.2.2.2.2.2.2.2.2.2.2.1) := eqF_iff.1 h6
    have h7 : x.2.2.2.2.2.2.2.2.2.2.2.2.1 = y.2.2.2.2.2.2.2.2.2.2.2.2.1 := Classical.byContradiction h7
    have h8 : x.2.2.2.2.2.2.2.2.2.2.2.2.2 = y.2.2.2.2.2.2.2.2.2.2.2.2.2 := Classical.byContradiction h8
    show mk46 (x.1) (x.2.1) (x.2.2.1) (x.2.2.2.1) (x.2.2.2.2.1) ((x.2.2.2.2.2.1, x.2.2.2.2.2.2.1, x.2.2.2.2.2.2.2.1, x.2.2.2.2.2.2.2.2.1)) ((x.2.2.2.2.2.2.2.2.2.1, x.2.2.2.2.2.2.2.2.2.2.1, x.2.2.2.2.2.2.2.2.2.2.2.1)) (x.2.2.2.2.2.2.2.2.2.2.2.2.1) (x.2.2.2.2.2.2.2.2.2.2.2.2.2) = mk46 (y.1) (y.2.1) (y.2.2.1) (y.2.2.2.1) (y.2.2.2.2.1) ((y.2.2.2.2.2.1, y.2.2.2.2.2.2.1, y.2.2.2.2.2.2.2.1, y.2.2.2.2.2.2.2.2.1)) ((y.2.2.2.2.2.2.2.2.2.1, y.2.2.2.2.2.2.2.2.2.2.1, y.2.2.2.2.2.2.2.2.2.2.2.1)) (y.2.2.2.2.2.2.2.2.2.2.2.2.1) (y.2.2.2.2.2.2.2.2.2.2.2.2.2)
    rw [h0, h1, h2, h3, h4, h5, h6, h7, h8]
    all_goals rfl
  · rintro rfl
    exact ⟨fun h => h rfl, fun h => h rfl, fun h => h rfl, fun h => h rfl, fun h => h rfl, eqF_iff.2 rfl, eqF_iff.2 rfl, fun h => h rfl, fun h => h rfl, trivial⟩
theorem w46 (x y : Flt) (h : wd x) : eqFine x y st46 := by
  first | simp only [wd_pair] at h | skip
  simp only [eqFine, st46, wd_pair]
  all_goals simp only [h, and_self]
theorem law46 : ∀ q : Flt × Flt, pEq q.1 q.2 → eqSt q.1 q.2 st46 (fun r => r = eqF q.1 q.2) := fun q hq => eqSt_holds q.1 q.2 st46 (w46 q.1 q.2 hq) (eqF_iff.trans (a46 q.1 q.2).symm)
theorem all46 (w : World) (hJ : J w) : CtAt Try.prog ct46 w :=
  ct_by ok46 (cs46 w hJ) Try.func46 (by kernel_rfl) (H := (hint [])) law46 (by kernel_rfl)
def E26 : Env := { tt, eqs := [], cts := [ct46] }
theorem ok26 : EnvOk Try.prog E26 := ⟨ttOk, by kernel_rfl, rfl, mixOk⟩
theorem cs26 (w0 : World) (hJ : J w0) : EnvCts Try.prog E26 w0 := by
  intro c hc
  rcases List.mem_cons.1 hc with rfl | hc
  · exact fun w hb => all46 w (J_below hJ hb)
  cases hc
def ct26 : Ct := { f := 26, ps := [.v false .ro ls41, .v false .ro ls41], rs := [(false, [.bool])], shared := false, pre := fun (q : (List Flt) × (List Flt)) => pEq q.1 q.2, F := fun (q : (List Flt) × (List Flt)) => eqF q.1 q.2 }
theorem law26 : ∀ q : (List Flt) × (List Flt), pEq q.1 q.2 → eqS (α := Flt) Dft.dft (fun a b => pEq a b) (fun a b => eqF a b) q.1 q.2 (fun r => r = eqF q.1 q.2) := fun q hq => eqS_holds (α := Flt) Dft.dft (fun a b => pEq a b) (fun a b => eqF a b) q.1 q.2 hq.1 (fun i a _ h => hq.2 i a h) (fun _ _ => eqF_iff) eqF_iff
theorem all26 (w : World) (hJ : J w) : CtAt Try.prog ct26 w :=
  ct_by ok26 (cs26 w hJ) Try.func26 (by kernel_rfl) (H := (hint [(4, [.val 5 (.int .i64)])])) law26 (by kernel_rfl)
def E70 : Env := { tt, eqs := [], cts := [ct77] }
theorem ok70 : EnvOk Try.prog E70 := ⟨ttOk, by kernel_rfl, rfl, mixOk⟩
theorem cs70 (w0 : World) (hJ : J w0) : EnvCts Try.prog E70 w0 := by
  intro c hc
  rcases List.mem_cons.1 hc with rfl | hc
  · exact fun w hb => all77 w (J_below hJ hb)
  cases hc
def ct70 : Ct := { f := 70, ps := [.v true .ro ls142, .v true .ro ls142], rs := [(false, [.bool])], shared := false, pre := fun (q : Rsc × Rsc) => pEq q.1 q.2, F := fun (q : Rsc × Rsc) => eqF q.1 q.2 }
def st70 : List (EqStep Rsc) := [.ne (fun (x y : Rsc) => x.1 ≠ y.1), .ne (fun (x y : Rsc) => x.2.1 ≠ y.2.1), .ne (fun (x y : Rsc) => x.2.2.1 ≠ y.2.2.1), .ne (fun (x y : Rsc) => x.2.2.2.1 ≠ y.2.2.2.1), .ne (fun (x y : Rsc) => x.2.2.2.2.1 ≠ y.2.2.2.2.1), .ne (fun (x y : Rsc) => x.2.2.2.2.2.1 ≠ y.2.2.2.2.2.1), .call (fun (x _ : Rsc) => wd (x.2.2.2.2.2.2 : (List Fld))) (fun (x y : Rsc) => eqF (x.2.2.2.2.2.2 : (List Fld)) y.2.2.2.2.2.2)]
def mk70 (a0 : S) (a1 : S) (a2 : Int) (a3 : Int) (a4 : Bool) (a5 : Bool) (a6 : (List Fld)) : Rsc := (a0, a1, a2, a3, a4, a5, a6)
theorem a70 (x y : Rsc) : eqAll x y st70 ↔ x = y := by
  constructor
  · rintro ⟨h0, h1, h2, h3, h4, h5, h6, -⟩
    have h0 : x.1 = y.1 := Classical.byContradiction h0
    have h1 : x.2.1 = y.2.1 := Classical.byContradiction h1
    have h2 : x.2.2.1 = y.2.2.1 := Classical.byContradiction h2
    have h3 : x.2.2.2.1 = y.2.2.2.1 := Classical.byContradiction h3
    have h4 : x.2.2.2.2.1 = y.2.2.2.2.1 := Classical.byContradiction h4
    have h5 : x.2.2.2.2.2.1 = y.2.2.2.2.2.1 := Classical.byContradiction h5
    have h6 : (x.2.2.2.2.2.2 : (List Fld)) = y.2.2.2.2.2.2 := eqF_iff.1 h6
    show mk70 (x.1) (x.2.1) (x.2.2.1) (x.2.2.2.1) (x.2.2.2.2.1) (x.2.2.2.2.2.1) (x.2.2.2.2.2.2) = mk70 (y.1) (y.2.1) (y.2.2.1) (y.2.2.2.1) (y.2.2.2.2.1) (y.2.2.2.2.2.1) (y.2.2.2.2.2.2)
    rw [h0, h1, h2, h3, h4, h5, h6]
    all_goals rfl
  · rintro rfl
    exact ⟨fun h => h rfl, fun h => h rfl, fun h => h rfl, fun h => h rfl, fun h => h rfl, fun h => h rfl, eqF_iff.2 rfl, trivial⟩
theorem w70 (x y : Rsc) (h : wd x) : eqFine x y st70 := by
  first | simp only [wd_pair] at h | skip
  simp only [eqFine, st70, wd_pair]
  all_goals simp only [h, and_self]
theorem law70 : ∀ q : Rsc × Rsc, pEq q.1 q.2 → eqSt q.1 q.2 st70 (fun r => r = eqF q.1 q.2) := fun q hq => eqSt_holds q.1 q.2 st70 (w70 q.1 q.2 hq) (eqF_iff.trans (a70 q.1 q.2).symm)
theorem all70 (w : World) (hJ : J w) : CtAt Try.prog ct70 w :=
  ct_by ok70 (cs70 w hJ) Try.func70 (by kernel_rfl) (H := (hint [])) law70 (by kernel_rfl)
def E47 : Env := { tt, eqs := [], cts := [ct70] }
theorem ok47 : EnvOk Try.prog E47 := ⟨ttOk, by kernel_rfl, rfl, mixOk⟩
theorem cs47 (w0 : World) (hJ : J w0) : EnvCts Try.prog E47 w0 := by
  intro c hc
  rcases List.mem_cons.1 hc with rfl | hc
  · exact fun w hb => all70 w (J_below hJ hb)
  cases hc
def ct47 : Ct := { f := 47, ps := [.v false .ro ls42, .v false .ro ls42], rs := [(false, [.bool])], shared := false, pre := fun (q : (List Rsc) × (List Rsc)) => pEq q.1 q.2, F := fun (q : (List Rsc) × (List Rsc)) => eqF q.1 q.2 }
theorem law47 : ∀ q : (List Rsc) × (List Rsc), pEq q.1 q.2 → eqS (α := Rsc) Dft.dft (fun a b => pEq a b) (fun a b => eqF a b) q.1 q.2 (fun r => r = eqF q.1 q.2) := fun q hq => eqS_holds (α := Rsc) Dft.dft (fun a b => pEq a b) (fun a b => eqF a b) q.1 q.2 hq.1 (fun i a _ h => hq.2 i a h) (fun _ _ => eqF_iff) eqF_iff
theorem all47 (w : World) (hJ : J w) : CtAt Try.prog ct47 w :=
  ct_by ok47 (cs47 w hJ) Try.func47 (by kernel_rfl) (H := (hint [(4, [.val 5 (.int .i64)])])) law47 (by kernel_rfl)
def E27 : Env := { tt, eqs := [], cts := [ct47] }
theorem ok27 : EnvOk Try.prog E27 := ⟨ttOk, by kernel_rfl, rfl, mixOk⟩
theorem cs27 (w0 : World) (hJ : J w0) : EnvCts Try.prog E27 w0 := by
  intro c hc
  rcases List.mem_cons.1 hc with rfl | hc
  · exact fun w hb => all47 w (J_below hJ hb)
  cases hc
def ct27 : Ct := { f := 27, ps := [.v true .ro ls44, .v true .ro ls44], rs := [(false, [.bool])], shared := false, pre := fun (q : (List Rsc) × (List Rsc)) => pEq q.1 q.2, F := fun (q : (List Rsc) × (List Rsc)) => eqF q.1 q.2 }
def st27 : List (EqStep (List Rsc)) := [.call (fun (x _ : (List Rsc)) => wd (x : (List Rsc))) (fun (x y : (List Rsc)) => eqF (x : (List Rsc)) y)]
def mk27 (a0 : (List Rsc)) : (List Rsc) := a0
theorem a27 (x y : (List Rsc)) : eqAll x y st27 ↔ x = y := by
  constructor
  · rintro ⟨h0, -⟩
    have h0 : (x : (List Rsc)) = y := eqF_iff.1 h0
    show mk27 (x) = mk27 (y)
    rw [h0]
    all_goals rfl
  · rintro rfl
    exact ⟨eqF_iff.2 rfl, trivial⟩
theorem w27 (x y : (List Rsc)) (h : wd x) : eqFine x y st27 := by
  first | simp only [wd_pair] at h | skip
  simp only [eqFine, st27, wd_pair]
  all_goals simp only [h, and_self]
theorem law27 : ∀ q : (List Rsc) × (List Rsc), pEq q.1 q.2 → eqSt q.1 q.2 st27 (fun r => r = eqF q.1 q.2) := fun q hq => eqSt_holds q.1 q.2 st27 (w27 q.1 q.2 hq) (eqF_iff.trans (a27 q.1 q.2).symm)
theorem all27 (w : World) (hJ : J w) : CtAt Try.prog ct27 w :=
  ct_by ok27 (cs27 w hJ) Try.func27 (by kernel_rfl) (H := (hint [])) law27 (by kernel_rfl)
def E48 : Env := { tt, eqs := [], cts := [] }
theorem ok48 : EnvOk Try.prog E48 := ⟨ttOk, by kernel_rfl, rfl, mixOk⟩
theorem cs48 (w0 : World) (hJ : J w0) : EnvCts Try.prog E48 w0 := by
  intro c hc
  cases hc
def ct48 : Ct := { f := 48, ps := [.v true .ro ls108, .v true .ro ls108], rs := [(false, [.bool])], shared := false, pre := fun (q : Evt × Evt) => pEq q.1 q.2, F := fun (q : Evt × Evt) => eqF q.1 q.2 }
def st48 : List (EqStep Evt) := [.ne (fun (x y : Evt) => x.1 ≠ y.1), .ne (fun (x y : Evt) => x.2.1 ≠ y.2.1), .ne (fun (x y : Evt) => x.2.2.1 ≠ y.2.2.1), .ne (fun (x y : Evt) => x.2.2.2.1 ≠ y.2.2.2.1), .ne (fun (x y : Evt) => x.2.2.2.2.1 ≠ y.2.2.2.2.1), .ne (fun (x y : Evt) => x.2.2.2.2.2 ≠ y.2.2.2.2.2)]
def mk48 (a0 : Int) (a1 : Int) (a2 : Int) (a3 : S) (a4 : Int) (a5 : Int) : Evt := (a0, a1, a2, a3, a4, a5)
theorem a48 (x y : Evt) : eqAll x y st48 ↔ x = y := by
  constructor
  · rintro ⟨h0, h1, h2, h3, h4, h5, -⟩
    have h0 : x.1 = y.1 := Classical.byContradiction h0
    have h1 : x.2.1 = y.2.1 := Classical.byContradiction h1
    have h2 : x.2.2.1 = y.2.2.1 := Classical.byContradiction h2
    have h3 : x.2.2.2.1 = y.2.2.2.1 := Classical.byContradiction h3
    have h4 : x.2.2.2.2.1 = y.2.2.2.2.1 := Classical.byContradiction h4
    have h5 : x.2.2.2.2.2 = y.2.2.2.2.2 := Classical.byContradiction h5
    show mk48 (x.1) (x.2.1) (x.2.2.1) (x.2.2.2.1) (x.2.2.2.2.1) (x.2.2.2.2.2) = mk48 (y.1) (y.2.1) (y.2.2.1) (y.2.2.2.1) (y.2.2.2.2.1) (y.2.2.2.2.2)
    rw [h0, h1, h2, h3, h4, h5]
    all_goals rfl
  · rintro rfl
    exact ⟨fun h => h rfl, fun h => h rfl, fun h => h rfl, fun h => h rfl, fun h => h rfl, fun h => h rfl, trivial⟩
theorem w48 (x y : Evt) (h : wd x) : eqFine x y st48 := by
  first | simp only [wd_pair] at h | skip
  simp only [eqFine, st48, wd_pair]
  all_goals simp only [h, and_self]
theorem law48 : ∀ q : Evt × Evt, pEq q.1 q.2 → eqSt q.1 q.2 st48 (fun r => r = eqF q.1 q.2) := fun q hq => eqSt_holds q.1 q.2 st48 (w48 q.1 q.2 hq) (eqF_iff.trans (a48 q.1 q.2).symm)
theorem all48 (w : World) (hJ : J w) : CtAt Try.prog ct48 w :=
  ct_by ok48 (cs48 w hJ) Try.func48 (by kernel_rfl) (H := (hint [])) law48 (by kernel_rfl)
def E28 : Env := { tt, eqs := [], cts := [ct48] }
theorem ok28 : EnvOk Try.prog E28 := ⟨ttOk, by kernel_rfl, rfl, mixOk⟩
theorem cs28 (w0 : World) (hJ : J w0) : EnvCts Try.prog E28 w0 := by
  intro c hc
  rcases List.mem_cons.1 hc with rfl | hc
  · exact fun w hb => all48 w (J_below hJ hb)
  cases hc
def ct28 : Ct := { f := 28, ps := [.v false .ro ls45, .v false .ro ls45], rs := [(false, [.bool])], shared := false, pre := fun (q : (List Evt) × (List Evt)) => pEq q.1 q.2, F := fun (q : (List Evt) × (List Evt)) => eqF q.1 q.2 }
theorem law28 : ∀ q : (List Evt) × (List Evt), pEq q.1 q.2 → eqS (α := Evt) Dft.dft (fun a b => pEq a b) (fun a b => eqF a b) q.1 q.2 (fun r => r = eqF q.1 q.2) := fun q hq => eqS_holds (α := Evt) Dft.dft (fun a b => pEq a b) (fun a b => eqF a b) q.1 q.2 hq.1 (fun i a _ h => hq.2 i a h) (fun _ _ => eqF_iff) eqF_iff
theorem all28 (w : World) (hJ : J w) : CtAt Try.prog ct28 w :=
  ct_by ok28 (cs28 w hJ) Try.func28 (by kernel_rfl) (H := (hint [(4, [.val 5 (.int .i64)])])) law28 (by kernel_rfl)
def E9 : Env := { tt, eqs := [], cts := [ct24, ct25, ct26, ct27, ct28] }
theorem ok9 : EnvOk Try.prog E9 := ⟨ttOk, by kernel_rfl, rfl, mixOk⟩
theorem cs9 (w0 : World) (hJ : J w0) : EnvCts Try.prog E9 w0 := by
  intro c hc
  rcases List.mem_cons.1 hc with rfl | hc
  · exact fun w hb => all24 w (J_below hJ hb)
  rcases List.mem_cons.1 hc with rfl | hc
  · exact fun w hb => all25 w (J_below hJ hb)
  rcases List.mem_cons.1 hc with rfl | hc
  · exact fun w hb => all26 w (J_below hJ hb)
  rcases List.mem_cons.1 hc with rfl | hc
  · exact fun w hb => all27 w (J_below hJ hb)
  rcases List.mem_cons.1 hc with rfl | hc
  · exact fun w hb => all28 w (J_below hJ hb)
  cases hc
def ct9 : Ct := { f := 9, ps := [.v true .ro ls47, .v true .ro ls47], rs := [(false, [.bool])], shared := false, pre := fun (q : Wld × Wld) => pEq q.1 q.2, F := fun (q : Wld × Wld) => eqF q.1 q.2 }
def st9 : List (EqStep Wld) := [.ne (fun (x y : Wld) => x.1 ≠ y.1), .ne (fun (x y : Wld) => x.2.1 ≠ y.2.1), .call (fun (x _ : Wld) => wd (x.2.2.1 : (List Cnn))) (fun (x y : Wld) => eqF (x.2.2.1 : (List Cnn)) y.2.2.1), .call (fun (x _ : Wld) => wd ((x.2.2.2.1, x.2.2.2.2.1) : Cch)) (fun (x y : Wld) => eqF ((x.2.2.2.1, x.2.2.2.2.1) : Cch) (y.2.2.2.1, y.2.2.2.2.1)), .call (fun (x _ : Wld) => wd (x.2.2.2.2.2.1 : (List Flt))) (fun (x y : Wld) => eqF (x.2.2.2.2.2.1 : (List Flt)) y.2.2.2.2.2.1), .call (fun (x _ : Wld) => wd (x.2.2.2.2.2.2.1 : (List Rsc))) (fun (x y : Wld) => eqF (x.2.2.2.2.2.2.1 : (List Rsc)) y.2.2.2.2.2.2.1), .call (fun (x _ : Wld) => wd (x.2.2.2.2.2.2.2 : (List Evt))) (fun (x y : Wld) => eqF (x.2.2.2.2.2.2.2 : (List Evt)) y.2.2.2.2.2.2.2)]
def mk9 (a0 : Int) (a1 : Int) (a2 : (List Cnn)) (a3 : Cch) (a4 : (List Flt)) (a5 : (List Rsc)) (a6 : (List Evt)) : Wld := (a0, a1, a2, a3.1, a3.2, a4, a5, a6)
theorem a9 (x y : Wld) : eqAll x y st9 ↔ x = y := by
  constructor
  · rintro ⟨h0, h1, h2, h3, h4, h5, h6, -⟩
    have h0 : x.1 = y.1 := Classical.byContradiction h0
    have h1 : x.2.1 = y.2.1 := Classical.byContradiction h1
    have h2 : (x.2.2.1 : (List Cnn)) = y.2.2.1 := eqF_iff.1 h2
    have h3 : ((x.2.2.2.1, x.2.2.2.2.1) : Cch) = (y.2.2.2.1, y.2.2.2.2.1) := eqF_iff.1 h3
    have h4 : (x.2.2.2.2.2.1 : (List Flt)) = y.2.2.2.2.2.1 := eqF_iff.1 h4
    have h5 : (x.2.2.2.2.2.2.1 : (List Rsc)) = y.2.2.2.2.2.2.1 := eqF_iff.1 h5
    have h6 : (x.2.2.2.2.2.2.2 : (List Evt)) = y.2.2.2.2.2.2.2 := eqF_iff.1 h6
    show mk9 (x.1) (x.2.1) (x.2.2.1) ((x.2.2.2.1, x.2.2.2.2.1)) (x.2.2.2.2.2.1) (x.2.2.2.2.2.2.1) (x.2.2.2.2.2.2.2) = mk9 (y.1) (y.2.1) (y.2.2.1) ((y.2.2.2.1, y.2.2.2.2.1)) (y.2.2.2.2.2.1) (y.2.2.2.2.2.2.1) (y.2.2.2.2.2.2.2)
    rw [h0, h1, h2, h3, h4, h5, h6]
    all_goals rfl
  · rintro rfl
    exact ⟨fun h => h rfl, fun h => h rfl, eqF_iff.2 rfl, eqF_iff.2 rfl, eqF_iff.2 rfl, eqF_iff.2 rfl, eqF_iff.2 rfl, trivial⟩
theorem w9 (x y : Wld) (h : wd x) : eqFine x y st9 := by
  first | simp only [wd_pair] at h | skip
  simp only [eqFine, st9, wd_pair]
  all_goals simp only [h, and_self]
theorem law9 : ∀ q : Wld × Wld, pEq q.1 q.2 → eqSt q.1 q.2 st9 (fun r => r = eqF q.1 q.2) := fun q hq => eqSt_holds q.1 q.2 st9 (w9 q.1 q.2 hq) (eqF_iff.trans (a9 q.1 q.2).symm)
theorem all9 (w : World) (hJ : J w) : CtAt Try.prog ct9 w :=
  ct_by ok9 (cs9 w hJ) Try.func9 (by kernel_rfl) (H := (hint [])) law9 (by kernel_rfl)
def E10 : Env := { tt, eqs := [], cts := [] }
theorem ok10 : EnvOk Try.prog E10 := ⟨ttOk, by kernel_rfl, rfl, mixOk⟩
theorem cs10 (w0 : World) (hJ : J w0) : EnvCts Try.prog E10 w0 := by
  intro c hc
  cases hc
def ct10 : Ct := { f := 10, ps := [.v true .ro ls47], rs := [(false, ls4)], shared := false, pre := fun (x : Wld) => pAllDone x, F := fun (x : Wld) => mAllDone x }
theorem law10 : ∀ x : Wld, pAllDone x → s_spec_AllDone x (fun r => r = mAllDone x) := fun x h => spec_AllDone_ok x h
theorem all10 (w : World) (hJ : J w) : CtAt Try.prog ct10 w :=
  ct_by ok10 (cs10 w hJ) Try.func10 (by kernel_rfl) (H := (hint [(2, [.val 3 (.int .i64)])])) law10 (by kernel_rfl)
def E30 : Env := { tt, eqs := [], cts := [] }
theorem ok30 : EnvOk Try.prog E30 := ⟨ttOk, by kernel_rfl, rfl, mixOk⟩
theorem cs30 (w0 : World) (hJ : J w0) : EnvCts Try.prog E30 w0 := by
  intro c hc
  cases hc
def ct30 : Ct := { f := 30, ps := [.v true .ro ls68], rs := [(false, ls4)], shared := false, pre := fun (x : Cnn) => pAllDone_1 x, F := fun (x : Cnn) => mAllDone_1 x }
theorem law30 : ∀ x : Cnn, pAllDone_1 x → s_impl_AllDone_1 x (fun r => r = mAllDone_1 x) := fun x _ => impl_AllDone_1_ok x
theorem all30 (w : World) (hJ : J w) : CtAt Try.prog ct30 w :=
  ct_by ok30 (cs30 w hJ) Try.func30 (by kernel_rfl) (H := (hint [])) law30 (by kernel_rfl)
def E49_30 : Env := { tt, eqs := [], cts := [ct30] }
theorem ok49_30 : EnvOk Try.prog E49_30 := ⟨ttOk, by kernel_rfl, rfl, mixOk⟩
theorem cs49_30 (w0 : World) (hJ : J w0) : EnvCts Try.prog E49_30 w0 := by
  intro c hc
  rcases List.mem_cons.1 hc with rfl | hc
  · exact fun w hb => all30 w (J_below hJ hb)
  cases hc
def ct49_30 : Ct := { f := 49, ps := [.v false .ro ls36, .c 30 []], rs := [(false, ls3)], shared := false, pre := fun (x : (List Cnn) × Unit) => pIndexFunc_AllDone_1 x.1 x.2, F := fun (x : (List Cnn) × Unit) => mIndexFunc_AllDone_1 x.1 x.2 }
theorem law49_30 : ∀ x : (List Cnn) × Unit, pIndexFunc_AllDone_1 x.1 x.2 → s_IndexFunc_AllDone_1 x.1 x.2 (fun r => r = mIndexFunc_AllDone_1 x.1 x.2) := fun x h => IndexFunc_AllDone_1_ok x.1 x.2 h
theorem all49_30 (w : World) (hJ : J w) : CtAt Try.prog ct49_30 w :=
  ct_by ok49_30 (cs49_30 w hJ) Try.func49 (by kernel_rfl) (H := (hint [(2, [.val 8 (.int .i64)])])) law49_30 (by kernel_rfl)
def E29_30 : Env := { tt, eqs := [], cts := [ct49_30] }
theorem ok29_30 : EnvOk Try.prog E29_30 := ⟨ttOk, by kernel_rfl, rfl, mixOk⟩
theorem cs29_30 (w0 : World) (hJ : J w0) : EnvCts Try.prog E29_30 w0 := by
  intro c hc
  rcases List.mem_cons.1 hc with rfl | hc
  · exact fun w hb => all49_30 w (J_below hJ hb)
  cases hc
def ct29_30 : Ct := { f := 29, ps := [.v false .ro ls36, .c 30 []], rs := [(false, ls4)], shared := false, pre := fun (x : (List Cnn) × Unit) => pContainsFunc_AllDone_1 x.1 x.2, F := fun (x : (List Cnn) × Unit) => mContainsFunc_AllDone_1 x.1 x.2 }
theorem law29_30 : ∀ x : (List Cnn) × Unit, pContainsFunc_AllDone_1 x.1 x.2 → s_ContainsFunc_AllDone_1 x.1 x.2 (fun r => r = mContainsFunc_AllDone_1 x.1 x.2) := fun x h => ContainsFunc_AllDone_1_ok x.1 x.2 h
theorem all29_30 (w : World) (hJ : J w) : CtAt Try.prog ct29_30 w :=
  ct_by ok29_30 (cs29_30 w hJ) Try.func29 (by kernel_rfl) (H := (hint [])) law29_30 (by kernel_rfl)
def E11 : Env := { tt, eqs := [], cts := [ct29_30] }
theorem ok11 : EnvOk Try.prog E11 := ⟨ttOk, by kernel_rfl, rfl, mixOk⟩
theorem cs11 (w0 : World) (hJ : J w0) : EnvCts Try.prog E11 w0 := by
  intro c hc
  rcases List.mem_cons.1 hc with rfl | hc
  · exact fun w hb => all29_30 w (J_below hJ hb)
  cases hc
def ct11 : Ct := { f := 11, ps := [.v true .ro ls47], rs := [(false, ls4)], shared := false, pre := fun (x : Wld) => pAllDone x, F := fun (x : Wld) => mAllDone x }
theorem law11 : ∀ x : Wld, pAllDone x → s_impl_AllDone x (fun r => r = mAllDone x) := fun x h => impl_AllDone_ok x h
theorem all11 (w : World) (hJ : J w) : CtAt Try.prog ct11 w :=
  ct_by ok11 (cs11 w hJ) Try.func11 (by kernel_rfl) (H := (hint [])) law11 (by kernel_rfl)
def E3 : Env := { tt, eqs := [], cts := [ct5, ct7, ct6, ct8, ct9] }
theorem ok3 : EnvOk Try.prog E3 := ⟨ttOk, by kernel_rfl, rfl, mixOk⟩
theorem cs3 (w0 : World) (hJ : J w0) : EnvCts Try.prog E3 w0 := by
  intro c hc
  rcases List.mem_cons.1 hc with rfl | hc
  · exact fun w hb => all5 w (J_below hJ hb)
  rcases List.mem_cons.1 hc with rfl | hc
  · exact fun w hb => all7 w (J_below hJ hb)
  rcases List.mem_cons.1 hc with rfl | hc
  · exact fun w hb => all6 w (J_below hJ hb)
  rcases List.mem_cons.1 hc with rfl | hc
  · exact fun w hb => all8 w (J_below hJ hb)
  rcases List.mem_cons.1 hc with rfl | hc
  · exact fun w hb => all9 w (J_below hJ hb)
  cases hc
def ct3 : Ct := boolCt 3 [.v true .ro ls33, .v false .ro ls3] (fun (x : Wld × Int) => p_FnExactBlocked x.1 x.2)
theorem law3 : ∀ x : Wld × Int, p_FnExactBlocked x.1 x.2 → s_laws_FnExactBlocked x.1 x.2 (fun r => r = true) := fun x h => laws_FnExactBlocked_ok x.1 x.2 h
theorem all3 (w : World) (hJ : J w) : CtAt Try.prog ct3 w :=
  ct_by ok3 (cs3 w hJ) Try.func3 (by kernel_rfl) (H := (hint [])) law3 (by kernel_rfl)
def E4 : Env := { tt, eqs := [], cts := [ct5, ct7, ct10, ct11, ct9] }
theorem ok4 : EnvOk Try.prog E4 := ⟨ttOk, by kernel_rfl, rfl, mixOk⟩
theorem cs4 (w0 : World) (hJ : J w0) : EnvCts Try.prog E4 w0 := by
  intro c hc
  rcases List.mem_cons.1 hc with rfl | hc
  · exact fun w hb => all5 w (J_below hJ hb)
  rcases List.mem_cons.1 hc with rfl | hc
  · exact fun w hb => all7 w (J_below hJ hb)
  rcases List.mem_cons.1 hc with rfl | hc
  · exact fun w hb => all10 w (J_below hJ hb)
  rcases List.mem_cons.1 hc with rfl | hc
  · exact fun w hb => all11 w (J_below hJ hb)
  rcases List.mem_cons.1 hc with rfl | hc
  · exact fun w hb => all9 w (J_below hJ hb)
  cases hc
def ct4 : Ct := boolCt 4 [.v true .ro ls33] (fun (x : Wld) => p_FnExactAllDone x)
theorem law4 : ∀ x : Wld, p_FnExactAllDone x → s_laws_FnExactAllDone x (fun r => r = true) := fun x h => laws_FnExactAllDone_ok x h
theorem all4 (w : World) (hJ : J w) : CtAt Try.prog ct4 w :=
  ct_by ok4 (cs4 w hJ) Try.func4 (by kernel_rfl) (H := (hint [])) law4 (by kernel_rfl)
end Go.Proofs.YtinphipdffikhaaEv
end
