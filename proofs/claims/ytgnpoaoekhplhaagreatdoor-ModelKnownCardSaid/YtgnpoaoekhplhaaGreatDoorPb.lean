/- A part of the proof that croupierlaw11.ModelKnown returns true (its last text says so). No condition of its own. -/
import Derived.Test.YtgnpoaoekhplhaaGreatDoorPa
set_option linter.unusedVariables false
set_option linter.unusedSimpArgs false
set_option linter.unusedSectionVars false
set_option linter.unusedVariables false
set_option linter.unusedSimpArgs false
namespace Go.Proofs.YtgnpoaoekhplhaaGreatDoor.AE.Tst
open Go Go.Proofs.YtgnpoaoekhplhaaGreatDoor.AE Go.Proofs.YtgnpoaoekhplhaaGreatDoor.AE.Sim

/-! ### Models as data -/
structure Br where
  to : Int
  p : List UInt8
  deriving DecidableEq
structure Ch where
  act : List UInt8
  gain : List UInt8
  next : List Br
  deriving DecidableEq
structure Mo where
  owner : List Int
  choices : List (List Ch)
  deriving DecidableEq

def intsV (l : List Int) : List V := l.map fun (x : Int) => .i .i64 x
theorem intsV_len (l : List Int) : (intsV l).length = l.length := by simp [intsV]
theorem intsV_get {l : List Int} {i : Nat} {v : V} (h : (intsV l)[i]? = some v) : ∃ hi : i < l.length, v = .i .i64 l[i] := by
  simp only [intsV, List.getElem?_map, Option.map_eq_some_iff] at h
  obtain ⟨x, hx, rfl⟩ := h
  obtain ⟨hi, e⟩ := List.getElem?_eq_some_iff.1 hx
  exact ⟨hi, by rw [e]⟩
theorem intsV_num (l : List Int) : allNum (intsV l) = true := by
  rw [allNum_iff]; intro v hv; simp only [intsV, List.mem_map] at hv; obtain ⟨c, _, rfl⟩ := hv; rfl
/-- A slice of ints. -/
def IntS (h : Hp) (v : V) (l : List Int) : Prop := IsSl h 1 v l.length (intsV l)
/-- A slice whose element i (of esz cells) stands in a relation to l[i]. -/
def SlR {α : Type} (R : Hp → List V → α → Prop) (esz : Nat) (h : Hp) (v : V) (l : List α) : Prop :=
  ∃ cs, IsSl h esz v l.length cs ∧ ∀ i (hi : i < l.length), R h ((cs.drop (i * esz)).take esz) l[i]
def BrR (h : Hp) (cs : List V) (b : Br) : Prop := cs = [.i .i64 b.to, .s b.p]
def NextR (h : Hp) (v : V) (l : List Br) : Prop := SlR BrR 2 h v l
def ChR (h : Hp) (cs : List V) (c : Ch) : Prop := ∃ nv, cs = [.s c.act, .s c.gain, nv] ∧ NextR h nv c.next
def ChsR (h : Hp) (v : V) (l : List Ch) : Prop := SlR ChR 3 h v l
def ChsC (h : Hp) (cs : List V) (l : List Ch) : Prop := ∃ v, cs = [v] ∧ ChsR h v l
def ChosR (h : Hp) (v : V) (l : List (List Ch)) : Prop := SlR ChsC 1 h v l
def MoR (h : Hp) (o c : V) (m : Mo) : Prop := IntS h o m.owner ∧ ChosR h c m.choices

theorem slR_gr {α : Type} {R : Hp → List V → α → Prop} (hR : ∀ {h h' : Hp} (g : Gr h h') {cs : List V} {x : α}, R h cs x → R h' cs x) {h h' : Hp} (g : Gr h h') {esz : Nat} {v : V} {l : List α} (e : SlR R esz h v l) : SlR R esz h' v l :=
  let ⟨cs, e1, e2⟩ := e; ⟨cs, g.isSl e1, fun i hi => hR g (e2 i hi)⟩
theorem nextR_gr {h h' : Hp} (g : Gr h h') {v : V} {l : List Br} (e : NextR h v l) : NextR h' v l := slR_gr (fun _ _ _ x => x) g e
theorem chR_gr {h h' : Hp} (g : Gr h h') {cs : List V} {c : Ch} (e : ChR h cs c) : ChR h' cs c := let ⟨nv, a, b⟩ := e; ⟨nv, a, nextR_gr g b⟩
theorem chsR_gr {h h' : Hp} (g : Gr h h') {v : V} {l : List Ch} (e : ChsR h v l) : ChsR h' v l := slR_gr chR_gr g e
theorem chsC_gr {h h' : Hp} (g : Gr h h') {cs : List V} {l : List Ch} (e : ChsC h cs l) : ChsC h' cs l := let ⟨v, a, b⟩ := e; ⟨v, a, chsR_gr g b⟩
theorem chosR_gr {h h' : Hp} (g : Gr h h') {v : V} {l : List (List Ch)} (e : ChosR h v l) : ChosR h' v l := slR_gr chsC_gr g e
theorem moR_gr {h h' : Hp} (g : Gr h h') {o c : V} {m : Mo} (e : MoR h o c m) : MoR h' o c m := ⟨g.isSl e.1, chosR_gr g e.2⟩
theorem SlR.len {α : Type} {R : Hp → List V → α → Prop} {h : Hp} {esz : Nat} {v : V} {l : List α} (e : SlR R esz h v l) : lenV false (some v) = some (.i .i64 (l.length : Nat)) := let ⟨_, a, _⟩ := e; a.len
theorem SlR.num {α : Type} {R : Hp → List V → α → Prop} {h : Hp} {esz : Nat} {v : V} {l : List α} (e : SlR R esz h v l) : v.cells = [v] ∧ v.isNum = true := let ⟨_, a, _⟩ := e; a.num
/-- An element: its address, its cells. -/
theorem SlR.ia {α : Type} {R : Hp → List V → α → Prop} {h : Hp} {esz : Nat} {v : V} {l : List α} {k : IntKind} (e : SlR R esz h v l) {j : Nat} (hj : j < l.length) :
    ∃ id o xs, iaV (.sl esz) (some v) (some (.i k (j : Int))) = some (.p id o) ∧ xs.length = esz ∧ R h xs l[j] ∧ ∀ i (hi : i < xs.length), h.at id (o + i) = some xs[i] := by
  obtain ⟨cs, e1, e2⟩ := e
  obtain ⟨id, off, a1, a2⟩ := e1.ia (k := k) hj
  have hle : j * esz + esz ≤ cs.length := by
    rw [e1.1]
    have : (j + 1) * esz ≤ l.length * esz := Nat.mul_le_mul_right _ hj
    rw [Nat.add_mul, Nat.one_mul] at this; exact this
  have hx : ((cs.drop (j * esz)).take esz).length = esz := by simp; omega
  refine ⟨id, off + j * esz, _, a1, hx, e2 j hj, fun i hi => ?_⟩
  rw [hx] at hi
  rw [a2 i hi]
  simp [List.getElem?_eq_getElem (show j * esz + i < cs.length by omega)]
theorem SlR.ia1 {α : Type} {R : Hp → List V → α → Prop} {h : Hp} {v : V} {l : List α} {k : IntKind} (e : SlR R 1 h v l) {j : Nat} (hj : j < l.length) :
    ∃ id o x, iaV (.sl 1) (some v) (some (.i k (j : Int))) = some (.p id o) ∧ R h [x] l[j] ∧ h.at id o = some x := by
  obtain ⟨id, o, xs, a1, a2, a3, a4⟩ := e.ia (k := k) hj
  obtain ⟨x, rfl⟩ : ∃ x, xs = [x] := by
    match xs, a2 with
    | [x], _ => exact ⟨x, rfl⟩
  exact ⟨id, o, x, a1, a3, by simpa using a4 0 (by simp)⟩
theorem slR_isSl {α : Type} {R : Hp → List V → α → Prop} {h : Hp} {esz : Nat} {v : V} {l : List α} (e : SlR R esz h v l) : ∃ cs, IsSl h esz v l.length cs ∧ ∀ i (hi : i < l.length), R h ((cs.drop (i * esz)).take esz) l[i] := e

/-! ### sized, owned -/
def sizedB (m : Mo) : Bool := decide (1 ≤ m.owner.length) && decide (m.owner.length ≤ 12) && decide (m.choices.length = m.owner.length) && m.choices.all fun l => decide (1 ≤ l.length) && decide (l.length ≤ 4)
theorem sized1 (v : V) (n : Nat) (h : Hp) (hl : lenV false (some v) = some (.i .i64 (n : Nat))) : E (.call 90 [v] h) = some (.val (.b (!(decide (1 ≤ n) && decide (n ≤ 4)))) h) := by
  rw [e90]
  by_cases h1 : n < 1
  · have h2 : ¬ 1 ≤ n := by omega
    simp (maxSteps := 10000000) (implicitDefEqProofs := false) (disch := first | omega | (simp only [add_nx, set_nx, kill_nx, bump_nx]; omega)) only [go_sem, get_set, ↓reduceIte, Nat.reduceEqDiff, Nat.reduceAdd, Nat.reduceSub, Nat.reduceMul, Nat.reduceMod, Nat.reduceDiv, Nat.reduceLT, Nat.reduceLeDiff, reduceCtorEq, decide_true, decide_false, Bool.false_eq_true, true_and, and_true, eq_self, Nat.zero_add, Nat.add_zero, Nat.mul_one, Nat.zero_mul, Nat.sub_zero, List.drop_zero, List.nil_append, List.append_nil, List.cons_append, Nat.zero_le, wrap64_nat, wrap64_int, wrap8u_lt, wrap32u_lt, wrap64u_lt, subI_nat, ixs_at, slcS_at, ia_sl, ia_ar, hadd_eq, hadd_ne, hset_eq, hset_ne, hkill_ne, at_add_same, at_add_ne, at_set_same, at_set_ne, at_kill_ne, mks_ok, bin_s_add, b90, hl, h1, h2]
  · have h2 : 1 ≤ n := by omega
    by_cases h3 : n ≤ 4
    · have h4 : ¬ 4 < n := by omega
      simp (maxSteps := 10000000) (implicitDefEqProofs := false) (disch := first | omega | (simp only [add_nx, set_nx, kill_nx, bump_nx]; omega)) only [go_sem, get_set, ↓reduceIte, Nat.reduceEqDiff, Nat.reduceAdd, Nat.reduceSub, Nat.reduceMul, Nat.reduceMod, Nat.reduceDiv, Nat.reduceLT, Nat.reduceLeDiff, reduceCtorEq, decide_true, decide_false, Bool.false_eq_true, true_and, and_true, eq_self, Nat.zero_add, Nat.add_zero, Nat.mul_one, Nat.zero_mul, Nat.sub_zero, List.drop_zero, List.nil_append, List.append_nil, List.cons_append, Nat.zero_le, wrap64_nat, wrap64_int, wrap8u_lt, wrap32u_lt, wrap64u_lt, subI_nat, ixs_at, slcS_at, ia_sl, ia_ar, hadd_eq, hadd_ne, hset_eq, hset_ne, hkill_ne, at_add_same, at_add_ne, at_set_same, at_set_ne, at_kill_ne, mks_ok, bin_s_add, b90, hl, h1, h2, h3, h4]
    · have h4 : 4 < n := by omega
      simp (maxSteps := 10000000) (implicitDefEqProofs := false) (disch := first | omega | (simp only [add_nx, set_nx, kill_nx, bump_nx]; omega)) only [go_sem, get_set, ↓reduceIte, Nat.reduceEqDiff, Nat.reduceAdd, Nat.reduceSub, Nat.reduceMul, Nat.reduceMod, Nat.reduceDiv, Nat.reduceLT, Nat.reduceLeDiff, reduceCtorEq, decide_true, decide_false, Bool.false_eq_true, true_and, and_true, eq_self, Nat.zero_add, Nat.add_zero, Nat.mul_one, Nat.zero_mul, Nat.sub_zero, List.drop_zero, List.nil_append, List.append_nil, List.cons_append, Nat.zero_le, wrap64_nat, wrap64_int, wrap8u_lt, wrap32u_lt, wrap64u_lt, subI_nat, ixs_at, slcS_at, ia_sl, ia_ar, hadd_eq, hadd_ne, hset_eq, hset_ne, hkill_ne, at_add_same, at_add_ne, at_set_same, at_set_ne, at_kill_ne, mks_ok, bin_s_add, b90, hl, h1, h2, h3, h4]
/-- The checker's block. -/
def CkR (h : Hp) (C : Nat) (o c : V) (p g : Int) : Prop := h.get C = some (.c [o, c, .i .i64 p, .i .i64 g] 86 none false false 0)
theorem ckR_at {h : Hp} {C : Nat} {o c : V} {p g : Int} (e : CkR h C o c p g) : h.at C 0 = some o ∧ h.at C 1 = some c ∧ h.at C 2 = some (.i .i64 p) ∧ h.at C 3 = some (.i .i64 g) :=
  ⟨by rw [at_of e]; rfl, by rw [at_of e]; rfl, by rw [at_of e]; rfl, by rw [at_of e]; rfl⟩

theorem sized_ok (h : Hp) (ok : h.Ok) (C : Nat) (o c : V) (p g : Int) (m : Mo) (ck : CkR h C o c p g) (hm : MoR h o c m) :
    Yv (E (.call 72 [.p C 0] h)) fun v h' => v = .b (sizedB m) ∧ Gr h h' := by
  obtain ⟨a0, a1, _, _⟩ := ckR_at ck
  have l0 := hm.1.len
  have l1 := hm.2.len
  rw [e72]
  have k0 : Nat.ble 0 0 = true := rfl
  by_cases h1 : m.owner.length < 1
  · have e : sizedB m = false := by unfold sizedB; rw [decide_eq_false (show ¬ (1 ≤ m.owner.length) by omega)]; rfl
    simp (maxSteps := 10000000) (implicitDefEqProofs := false) (disch := first | omega | (simp only [add_nx, set_nx, kill_nx, bump_nx]; omega)) only [go_sem, get_set, ↓reduceIte, Nat.reduceEqDiff, Nat.reduceAdd, Nat.reduceSub, Nat.reduceMul, Nat.reduceMod, Nat.reduceDiv, Nat.reduceLT, Nat.reduceLeDiff, reduceCtorEq, decide_true, decide_false, Bool.false_eq_true, true_and, and_true, eq_self, Nat.zero_add, Nat.add_zero, Nat.mul_one, Nat.zero_mul, Nat.sub_zero, List.drop_zero, List.nil_append, List.append_nil, List.cons_append, Nat.zero_le, wrap64_nat, wrap64_int, wrap8u_lt, wrap32u_lt, wrap64u_lt, subI_nat, ixs_at, slcS_at, ia_sl, ia_ar, hadd_eq, hadd_ne, hset_eq, hset_ne, hkill_ne, at_add_same, at_add_ne, at_set_same, at_set_ne, at_kill_ne, mks_ok, bin_s_add, b72, a0, a1, l0, l1, h1, e]
    exact Gr.refl ok
  · by_cases h2 : 12 < m.owner.length
    · have e : sizedB m = false := by unfold sizedB; rw [decide_eq_false (show ¬ (m.owner.length ≤ 12) by omega)]; simp
      simp (maxSteps := 10000000) (implicitDefEqProofs := false) (disch := first | omega | (simp only [add_nx, set_nx, kill_nx, bump_nx]; omega)) only [go_sem, get_set, ↓reduceIte, Nat.reduceEqDiff, Nat.reduceAdd, Nat.reduceSub, Nat.reduceMul, Nat.reduceMod, Nat.reduceDiv, Nat.reduceLT, Nat.reduceLeDiff, reduceCtorEq, decide_true, decide_false, Bool.false_eq_true, true_and, and_true, eq_self, Nat.zero_add, Nat.add_zero, Nat.mul_one, Nat.zero_mul, Nat.sub_zero, List.drop_zero, List.nil_append, List.append_nil, List.cons_append, Nat.zero_le, wrap64_nat, wrap64_int, wrap8u_lt, wrap32u_lt, wrap64u_lt, subI_nat, ixs_at, slcS_at, ia_sl, ia_ar, hadd_eq, hadd_ne, hset_eq, hset_ne, hkill_ne, at_add_same, at_add_ne, at_set_same, at_set_ne, at_kill_ne, mks_ok, bin_s_add, b72, a0, a1, l0, l1, h1, h2, e]
      exact Gr.refl ok
    · by_cases h3 : m.choices.length = m.owner.length
      · obtain ⟨cs, s1, s2⟩ := hm.2
        have ap : ∀ i (hi : i < cs.length), cs[i] = cs[i]'hi := fun _ _ => rfl
        have hcl : cs.length = m.choices.length := by rw [s1.1, Nat.mul_one]
        have key := containsFunc52 h ok c m.choices.length 90 cs (fun i => !(decide (1 ≤ (m.choices.getD i []).length) && decide ((m.choices.getD i []).length ≤ 4))) s1 (by omega) (fun i hi h' gr => by
          obtain ⟨v, e1, e2⟩ := s2 i (by omega)
          have e3 : cs[i] = v := by
            have : (cs.drop (i * 1)).take 1 = [cs[i]] := by
              rw [Nat.mul_one, List.drop_eq_getElem_cons hi]; rfl
            rw [this] at e1; exact List.singleton_inj.1 e1
          rw [e3, sized1 v _ h' (chsR_gr gr e2).len]
          have e4 : m.choices.getD i [] = m.choices[i]'(by omega) := by simp [List.getD, List.getElem?_eq_getElem (show i < m.choices.length by omega)]
          show _ ∧ _
          rw [e4]
          exact ⟨rfl, Gr.refl gr.ok⟩)
        have e : sizedB m = !(anyB (fun i => !(decide (1 ≤ (m.choices.getD i []).length) && decide ((m.choices.getD i []).length ≤ 4))) m.choices.length) := by
          unfold sizedB anyB
          rw [decide_eq_true (show 1 ≤ m.owner.length by omega), decide_eq_true (show m.owner.length ≤ 12 by omega), decide_eq_true h3]
          simp only [Bool.true_and]
          rw [List.not_any_eq_all_not, Bool.eq_iff_iff, List.all_eq_true, List.all_eq_true]
          constructor
          · intro hh i hi
            have hi' : i < m.choices.length := by simpa using hi
            have := hh (m.choices[i]) (List.getElem_mem hi')
            simpa [List.getD, List.getElem?_eq_getElem hi'] using this
          · intro hh l hl
            obtain ⟨i, hi, rfl⟩ := List.getElem_of_mem hl
            have := hh i (by simpa using hi)
            simpa [List.getD, List.getElem?_eq_getElem hi] using this
        simp (maxSteps := 10000000) (implicitDefEqProofs := false) (disch := first | omega | (simp only [add_nx, set_nx, kill_nx, bump_nx]; omega)) only [go_sem, get_set, ↓reduceIte, Nat.reduceEqDiff, Nat.reduceAdd, Nat.reduceSub, Nat.reduceMul, Nat.reduceMod, Nat.reduceDiv, Nat.reduceLT, Nat.reduceLeDiff, reduceCtorEq, decide_true, decide_false, Bool.false_eq_true, true_and, and_true, eq_self, Nat.zero_add, Nat.add_zero, Nat.mul_one, Nat.zero_mul, Nat.sub_zero, List.drop_zero, List.nil_append, List.append_nil, List.cons_append, Nat.zero_le, wrap64_nat, wrap64_int, wrap8u_lt, wrap32u_lt, wrap64u_lt, subI_nat, ixs_at, slcS_at, ia_sl, ia_ar, hadd_eq, hadd_ne, hset_eq, hset_ne, hkill_ne, at_add_same, at_add_ne, at_set_same, at_set_ne, at_kill_ne, mks_ok, bin_s_add, b72, a0, a1, l0, l1, h1, h2, h3]
        refine key.mono ?_
        rintro v h' ⟨rfl, gr⟩
        obtain ⟨a0', a1', _, _⟩ := ckR_at (gr.keep _ _ ck)
        simp (maxSteps := 10000000) (implicitDefEqProofs := false) (disch := first | omega | (simp only [add_nx, set_nx, kill_nx, bump_nx]; omega)) only [go_sem, get_set, ↓reduceIte, Nat.reduceEqDiff, Nat.reduceAdd, Nat.reduceSub, Nat.reduceMul, Nat.reduceMod, Nat.reduceDiv, Nat.reduceLT, Nat.reduceLeDiff, reduceCtorEq, decide_true, decide_false, Bool.false_eq_true, true_and, and_true, eq_self, Nat.zero_add, Nat.add_zero, Nat.mul_one, Nat.zero_mul, Nat.sub_zero, List.drop_zero, List.nil_append, List.append_nil, List.cons_append, Nat.zero_le, wrap64_nat, wrap64_int, wrap8u_lt, wrap32u_lt, wrap64u_lt, subI_nat, ixs_at, slcS_at, ia_sl, ia_ar, hadd_eq, hadd_ne, hset_eq, hset_ne, hkill_ne, at_add_same, at_add_ne, at_set_same, at_set_ne, at_kill_ne, mks_ok, bin_s_add, a0, a1, a0', a1']
        rw [e]
        exact ⟨rfl, gr⟩
      · have e : sizedB m = false := by unfold sizedB; rw [decide_eq_false h3]; simp
        simp (maxSteps := 10000000) (implicitDefEqProofs := false) (disch := first | omega | (simp only [add_nx, set_nx, kill_nx, bump_nx]; omega)) only [go_sem, get_set, ↓reduceIte, Nat.reduceEqDiff, Nat.reduceAdd, Nat.reduceSub, Nat.reduceMul, Nat.reduceMod, Nat.reduceDiv, Nat.reduceLT, Nat.reduceLeDiff, reduceCtorEq, decide_true, decide_false, Bool.false_eq_true, true_and, and_true, eq_self, Nat.zero_add, Nat.add_zero, Nat.mul_one, Nat.zero_mul, Nat.sub_zero, List.drop_zero, List.nil_append, List.append_nil, List.cons_append, Nat.zero_le, wrap64_nat, wrap64_int, wrap8u_lt, wrap32u_lt, wrap64u_lt, subI_nat, ixs_at, slcS_at, ia_sl, ia_ar, hadd_eq, hadd_ne, hset_eq, hset_ne, hkill_ne, at_add_same, at_add_ne, at_set_same, at_set_ne, at_kill_ne, mks_ok, bin_s_add, b72, a0, a1, l0, l1, h1, h2, h3, e]
        exact Gr.refl ok
def ownedB (m : Mo) : Bool := m.owner.all fun o => decide (o = 0) || decide (o = 1)
theorem owned1 (x : Int) (h : Hp) : E (.call 92 [.i .i64 x] h) = some (.val (.b (!(decide (x = 0) || decide (x = 1)))) h) := by
  rw [e92]
  by_cases h0 : x = 0
  · have c0 : eqI x ((0 : Nat) : Int) = true := by rw [eqI_int, h0]; rfl
    rw [show (!(decide (x = 0) || decide (x = 1))) = false by rw [decide_eq_true h0]; rfl]
    simp (maxSteps := 10000000) (implicitDefEqProofs := false) (disch := first | omega | (simp only [add_nx, set_nx, kill_nx, bump_nx]; omega)) only [go_sem, get_set, ↓reduceIte, Nat.reduceEqDiff, Nat.reduceAdd, Nat.reduceSub, Nat.reduceMul, Nat.reduceMod, Nat.reduceDiv, Nat.reduceLT, Nat.reduceLeDiff, reduceCtorEq, decide_true, decide_false, Bool.false_eq_true, true_and, and_true, eq_self, Nat.zero_add, Nat.add_zero, Nat.mul_one, Nat.zero_mul, Nat.sub_zero, List.drop_zero, List.nil_append, List.append_nil, List.cons_append, Nat.zero_le, wrap64_nat, wrap64_int, wrap8u_lt, wrap32u_lt, wrap64u_lt, subI_nat, ixs_at, slcS_at, ia_sl, ia_ar, hadd_eq, hadd_ne, hset_eq, hset_ne, hkill_ne, at_add_same, at_add_ne, at_set_same, at_set_ne, at_kill_ne, mks_ok, bin_s_add, b92, c0]
  · have c0 : eqI x ((0 : Nat) : Int) = false := by rw [eqI_int]; exact decide_eq_false h0
    by_cases h1 : x = 1
    · have c1 : eqI x ((1 : Nat) : Int) = true := by rw [eqI_int, h1]; rfl
      rw [show (!(decide (x = 0) || decide (x = 1))) = false by rw [decide_eq_true h1, Bool.or_true]; rfl]
      simp (maxSteps := 10000000) (implicitDefEqProofs := false) (disch := first | omega | (simp only [add_nx, set_nx, kill_nx, bump_nx]; omega)) only [go_sem, get_set, ↓reduceIte, Nat.reduceEqDiff, Nat.reduceAdd, Nat.reduceSub, Nat.reduceMul, Nat.reduceMod, Nat.reduceDiv, Nat.reduceLT, Nat.reduceLeDiff, reduceCtorEq, decide_true, decide_false, Bool.false_eq_true, true_and, and_true, eq_self, Nat.zero_add, Nat.add_zero, Nat.mul_one, Nat.zero_mul, Nat.sub_zero, List.drop_zero, List.nil_append, List.append_nil, List.cons_append, Nat.zero_le, wrap64_nat, wrap64_int, wrap8u_lt, wrap32u_lt, wrap64u_lt, subI_nat, ixs_at, slcS_at, ia_sl, ia_ar, hadd_eq, hadd_ne, hset_eq, hset_ne, hkill_ne, at_add_same, at_add_ne, at_set_same, at_set_ne, at_kill_ne, mks_ok, bin_s_add, b92, c0, c1]
    · have c1 : eqI x ((1 : Nat) : Int) = false := by rw [eqI_int]; exact decide_eq_false h1
      rw [show (!(decide (x = 0) || decide (x = 1))) = true by rw [decide_eq_false h0, decide_eq_false h1]; rfl]
      simp (maxSteps := 10000000) (implicitDefEqProofs := false) (disch := first | omega | (simp only [add_nx, set_nx, kill_nx, bump_nx]; omega)) only [go_sem, get_set, ↓reduceIte, Nat.reduceEqDiff, Nat.reduceAdd, Nat.reduceSub, Nat.reduceMul, Nat.reduceMod, Nat.reduceDiv, Nat.reduceLT, Nat.reduceLeDiff, reduceCtorEq, decide_true, decide_false, Bool.false_eq_true, true_and, and_true, eq_self, Nat.zero_add, Nat.add_zero, Nat.mul_one, Nat.zero_mul, Nat.sub_zero, List.drop_zero, List.nil_append, List.append_nil, List.cons_append, Nat.zero_le, wrap64_nat, wrap64_int, wrap8u_lt, wrap32u_lt, wrap64u_lt, subI_nat, ixs_at, slcS_at, ia_sl, ia_ar, hadd_eq, hadd_ne, hset_eq, hset_ne, hkill_ne, at_add_same, at_add_ne, at_set_same, at_set_ne, at_kill_ne, mks_ok, bin_s_add, b92, c0, c1]
theorem owned_ok (h : Hp) (ok : h.Ok) (C : Nat) (o c : V) (p g : Int) (m : Mo) (ck : CkR h C o c p g) (hm : MoR h o c m) (hl : m.owner.length ≤ 1099511627776) :
    Yv (E (.call 73 [.p C 0] h)) fun v h' => v = .b (ownedB m) ∧ Gr h h' := by
  obtain ⟨a0, a1, _, _⟩ := ckR_at ck
  rw [e73]
  have key := containsFunc91 h ok o m.owner.length 92 (intsV m.owner) (fun i => !(decide (m.owner.getD i 0 = 0) || decide (m.owner.getD i 0 = 1))) hm.1 hl (fun i hi h' gr => by
    have hi' : i < m.owner.length := by rw [intsV_len] at hi; exact hi
    have e1 : (intsV m.owner)[i] = .i .i64 m.owner[i] := by simp [intsV]
    have e2 : m.owner.getD i 0 = m.owner[i] := by simp [List.getD, List.getElem?_eq_getElem hi']
    show Yv _ fun v h'' => v = V.b (!(decide (m.owner.getD i 0 = 0) || decide (m.owner.getD i 0 = 1))) ∧ Gr h' h''
    rw [e1, owned1, e2]
    exact ⟨rfl, Gr.refl gr.ok⟩)
  have e : ownedB m = !(anyB (fun i => !(decide (m.owner.getD i 0 = 0) || decide (m.owner.getD i 0 = 1))) m.owner.length) := by
    unfold ownedB anyB
    rw [List.not_any_eq_all_not, Bool.eq_iff_iff, List.all_eq_true, List.all_eq_true]
    constructor
    · intro hh i hi
      have hi' : i < m.owner.length := by simpa using hi
      have := hh (m.owner[i]) (List.getElem_mem hi')
      simpa [List.getD, List.getElem?_eq_getElem hi'] using this
    · intro hh l hl
      obtain ⟨i, hi, rfl⟩ := List.getElem_of_mem hl
      have := hh i (by simpa using hi)
      simpa [List.getD, List.getElem?_eq_getElem hi] using this
  simp (maxSteps := 10000000) (implicitDefEqProofs := false) (disch := first | omega | (simp only [add_nx, set_nx, kill_nx, bump_nx]; omega)) only [go_sem, get_set, ↓reduceIte, Nat.reduceEqDiff, Nat.reduceAdd, Nat.reduceSub, Nat.reduceMul, Nat.reduceMod, Nat.reduceDiv, Nat.reduceLT, Nat.reduceLeDiff, reduceCtorEq, decide_true, decide_false, Bool.false_eq_true, true_and, and_true, eq_self, Nat.zero_add, Nat.add_zero, Nat.mul_one, Nat.zero_mul, Nat.sub_zero, List.drop_zero, List.nil_append, List.append_nil, List.cons_append, Nat.zero_le, wrap64_nat, wrap64_int, wrap8u_lt, wrap32u_lt, wrap64u_lt, subI_nat, ixs_at, slcS_at, ia_sl, ia_ar, hadd_eq, hadd_ne, hset_eq, hset_ne, hkill_ne, at_add_same, at_add_ne, at_set_same, at_set_ne, at_kill_ne, mks_ok, bin_s_add, b73, a0]
  refine key.mono ?_
  rintro v h' ⟨rfl, gr⟩
  simp (maxSteps := 10000000) (implicitDefEqProofs := false) (disch := first | omega | (simp only [add_nx, set_nx, kill_nx, bump_nx]; omega)) only [go_sem, get_set, ↓reduceIte, Nat.reduceEqDiff, Nat.reduceAdd, Nat.reduceSub, Nat.reduceMul, Nat.reduceMod, Nat.reduceDiv, Nat.reduceLT, Nat.reduceLeDiff, reduceCtorEq, decide_true, decide_false, Bool.false_eq_true, true_and, and_true, eq_self, Nat.zero_add, Nat.add_zero, Nat.mul_one, Nat.zero_mul, Nat.sub_zero, List.drop_zero, List.nil_append, List.append_nil, List.cons_append, Nat.zero_le, wrap64_nat, wrap64_int, wrap8u_lt, wrap32u_lt, wrap64u_lt, subI_nat, ixs_at, slcS_at, ia_sl, ia_ar, hadd_eq, hadd_ne, hset_eq, hset_ne, hkill_ne, at_add_same, at_add_ne, at_set_same, at_set_ne, at_kill_ne, mks_ok, bin_s_add]
  rw [e]; exact ⟨rfl, gr⟩
end Go.Proofs.YtgnpoaoekhplhaaGreatDoor.AE.Tst
set_option linter.unusedVariables false
set_option linter.unusedSimpArgs false
namespace Go.Proofs.YtgnpoaoekhplhaaGreatDoor.AE.Tst
open Go Go.Proofs.YtgnpoaoekhplhaaGreatDoor.AE Go.Proofs.YtgnpoaoekhplhaaGreatDoor.AE.Sim

/-! ### Ranges over a function -/
theorem round_eq {rec : RecT} {l : Nat} {args : List V} {h : Hp} {ls : LS} {pe : Option Ex} {tm : Tm} {ps : List Nat} {a b : AC} {d : Nat} (e : h.get l = some (.l ls pe tm ps a b d)) : round rec l args h = rdGo l a b rec h (setPs ps args tm) := by
  unfold round; rw [e]
/-- A round: the assignments, then the body. -/
theorem yield_rule {l : Nat} {args : List V} {h : Hp} {ls : LS} {pe : Option Ex} {tm tm' : Tm} {ps : List Nat} {a b : AC} {d : Nat} {P : V → Hp → Prop} (e : h.get l = some (.l ls pe tm ps a b d)) (hps : setPs ps args tm = some tm')
    (hb : Yc (cd a E (some l) ⟨tm', [], h⟩) fun x st => x = .nor ∧ st.h.get l = some (.l .ready none tm ps a b d) ∧
      Yc (cd b E (some l) ⟨st.tm, st.df, st.h.set l (.l .busy none tm ps a b d)⟩) fun x st2 => st2.h.get l = some (.l .busy none tm ps a b d) ∧ (match x with
        | .nor => P (.b true) (st2.h.set l (.l .ready none tm ps a b d))
        | x => P (.b false) (st2.h.set l (.l .done (some x) tm ps a b d)))) :
    Yv (E (.yield l args h)) P := by
  rw [E_yield, round_eq e, hps]
  show Yv (rdMid l b E (cd a E (some l) ⟨tm', [], h⟩)) P
  obtain ⟨x, tm1, df1, h1, e1, rfl, g1, hb⟩ := hb.elim
  rw [e1]
  obtain ⟨x2, tm2, df2, h2, e2, g2, hp⟩ := hb.elim
  show Yv (match h1.get l with
    | some (.l .ready pend tm0 ps a' b' d) => rdEnd l (cd b E (some l) ⟨tm1, df1, h1.set l (.l .busy pend tm0 ps a' b' d)⟩)
    | _ => none) P
  have g1' : h1.get l = some (.l .ready none tm ps a b d) := g1
  rw [g1']
  show Yv (rdEnd l (cd b E (some l) ⟨tm1, df1, h1.set l (.l .busy none tm ps a b d)⟩)) P
  have e2' : cd b E (some l) ⟨tm1, df1, h1.set l (.l .busy none tm ps a b d)⟩ = some (.code x2 ⟨tm2, df2, h2⟩) := e2
  rw [e2']
  unfold rdEnd
  have g2' : h2.get l = some (.l .busy none tm ps a b d) := g2
  simp only [g2']
  cases x2 with
  | nor => exact hp
  | ret => exact hp
  | exit id => exact hp

/-! ### all -/
def allFrom (s : Nat) : List (List Ch) → List (Nat × Ch)
  | [] => []
  | l :: ll => l.map (fun c => (s, c)) ++ allFrom (s + 1) ll
theorem allFrom_drop (ll : List (List Ch)) (s : Nat) (hs : s < ll.length) : allFrom s (ll.drop s) = ll[s].map (fun c => (s, c)) ++ allFrom (s + 1) (ll.drop (s + 1)) := by
  rw [List.drop_eq_getElem_cons hs]; rfl
def allC (m : Mo) : List (Nat × Ch) := allFrom 0 m.choices

section
variable (h0 : Hp) (l M : Nat) (o c : V) (Inv : List (Nat × Ch) → Hp → Prop) (Stop : Hp → Prop)
/-- What a range over all choices needs: the model lies in h0, the box of the model in each heap. -/
structure AllOK (m : Mo) : Prop where
  mo : MoR h0 o c m
  inv : ∀ rem hp, Inv rem hp → Gr h0 hp ∧ hp.get M = some (.c [o, c] 32 none false false 0)
  grow : ∀ rem hp hp', Inv rem hp → Gr hp hp' → Inv rem hp'
  step : ∀ s ch rem hp nv, Inv ((s, ch) :: rem) hp → NextR h0 nv ch.next → Yv (E (.yield l [.i .i64 ((s : Nat) : Int), .ag [.s ch.act, .s ch.gain, nv]] hp)) fun v hp' => (v = .b true ∧ Inv rem hp') ∨ (v = .b false ∧ Stop hp')
  small : m.choices.length ≤ 1099511627776 ∧ ∀ x ∈ m.choices, x.length ≤ 1099511627776

variable {h0 l M o c Inv Stop}
theorem all_inner {m : Mo} (A : AllOK h0 l M o c Inv Stop m) (s : Nat) (hs : s < m.choices.length) (lv : V) (hlv : ChsR h0 lv m.choices[s]) (tm : Tm) (hp : Hp) (hi : Inv (allFrom s (m.choices.drop s)) hp)
    (t0 : tm.get 0 = some (.fy l)) (t3 : tm.get 3 = some (.i .i64 ((s : Nat) : Int))) (t15 : tm.get 15 = some lv) (t16 : tm.get 16 = some (.i .i64 ((m.choices[s].length : Nat) : Int))) (t17 : tm.get 17 = some (.i .i64 ((0 : Nat) : Int))) :
    Yc (E (.loop none l78_0 ⟨tm, [], hp⟩)) fun e st => st.df = [] ∧ AlB (wrs l78_0) tm st.tm ∧ ((e = .exit 2 ∧ Inv (allFrom (s + 1) (m.choices.drop (s + 1))) st.h) ∨ (e = .ret ∧ Stop st.h)) := by
  refine E_rule (α := Nat) (fun k tm hp => k ≤ m.choices[s].length ∧ Inv ((m.choices[s].drop k).map (fun c => (s, c)) ++ allFrom (s + 1) (m.choices.drop (s + 1))) hp ∧ tm.get 17 = some (.i .i64 (k : Int))) (fun k => m.choices[s].length - k)
    (fun e tm hp => (e = .exit 2 ∧ Inv (allFrom (s + 1) (m.choices.drop (s + 1))) hp) ∨ (e = .ret ∧ Stop hp)) (by rfl) ?_ 0 tm hp ⟨by omega, by rw [allFrom_drop _ _ hs] at hi; exact hi, t17⟩ (AlB.refl _ _)
  rintro k tm' h' ⟨hk, hi, g17⟩ al
  have g0 := (al 0 (by rfl)).trans t0
  have g3 := (al 3 (by rfl)).trans t3
  have g15 := (al 15 (by rfl)).trans t15
  have g16 := (al 16 (by rfl)).trans t16
  have hsm := A.small.2 _ (List.getElem_mem hs)
  by_cases hlt : k < m.choices[s].length
  · obtain ⟨id, off, xs, a1, a2, ⟨nv, rfl, hn⟩, a4⟩ := hlv.ia (k := .i64) hlt
    obtain ⟨gr, gM⟩ := A.inv _ _ hi
    have hld : ldV (some 3) (some (.p id off)) h' = some (.ag [.s (m.choices[s][k]).act, .s (m.choices[s][k]).gain, nv]) := ld_cells rfl (by omega) (fun i hi => gr.at (a4 i hi))
    rw [ldn_eq] at hld
    obtain ⟨n1, n2⟩ := hn.num
    rw [List.drop_eq_getElem_cons hlt] at hi
    have hg : Gr h' ((h'.add (.c [.s [], .s [], .sn] 27 none false false 0)).set h'.nx (.c [.s (m.choices[s][k]).act, .s (m.choices[s][k]).gain, nv] 27 none false false 0)) :=
      ((Gr.refl gr.ok).add _).set (Nat.le_refl _) (Nat.lt_succ_self _) _
    have key := A.step s (m.choices[s][k]) _ _ nv (A.grow _ _ _ hi hg) hn
    simp (maxSteps := 10000000) (implicitDefEqProofs := false) (disch := first | omega | (simp only [add_nx, set_nx, kill_nx, bump_nx]; omega)) only [go_sem, get_set, ↓reduceIte, Nat.reduceEqDiff, Nat.reduceAdd, Nat.reduceSub, Nat.reduceMul, Nat.reduceMod, Nat.reduceDiv, Nat.reduceLT, Nat.reduceLeDiff, reduceCtorEq, decide_true, decide_false, Bool.false_eq_true, true_and, and_true, eq_self, Nat.zero_add, Nat.add_zero, Nat.mul_one, Nat.zero_mul, Nat.sub_zero, List.drop_zero, List.nil_append, List.append_nil, List.cons_append, Nat.zero_le, wrap64_nat, wrap64_int, wrap8u_lt, wrap32u_lt, wrap64u_lt, subI_nat, ixs_at, slcS_at, ia_sl, ia_ar, hadd_eq, hadd_ne, hset_eq, hset_ne, hkill_ne, at_add_same, at_add_ne, at_set_same, at_set_ne, at_kill_ne, mks_ok, bin_s_add, l78_0, g0, g3, g15, g16, g17, hlt, a1, hld, n1, n2]
    refine key.mono ?_
    rintro v hp' (⟨rfl, hi'⟩ | ⟨rfl, hst⟩)
    · simp (maxSteps := 10000000) (implicitDefEqProofs := false) (disch := first | omega | (simp only [add_nx, set_nx, kill_nx, bump_nx]; omega)) only [go_sem, get_set, ↓reduceIte, Nat.reduceEqDiff, Nat.reduceAdd, Nat.reduceSub, Nat.reduceMul, Nat.reduceMod, Nat.reduceDiv, Nat.reduceLT, Nat.reduceLeDiff, reduceCtorEq, decide_true, decide_false, Bool.false_eq_true, true_and, and_true, eq_self, Nat.zero_add, Nat.add_zero, Nat.mul_one, Nat.zero_mul, Nat.sub_zero, List.drop_zero, List.nil_append, List.append_nil, List.cons_append, Nat.zero_le, wrap64_nat, wrap64_int, wrap8u_lt, wrap32u_lt, wrap64u_lt, subI_nat, ixs_at, slcS_at, ia_sl, ia_ar, hadd_eq, hadd_ne, hset_eq, hset_ne, hkill_ne, at_add_same, at_add_ne, at_set_same, at_set_ne, at_kill_ne, mks_ok, bin_s_add, g17]
      exact ⟨k + 1, by omega, by omega, hi', rfl⟩
    · simp (maxSteps := 10000000) (implicitDefEqProofs := false) (disch := first | omega | (simp only [add_nx, set_nx, kill_nx, bump_nx]; omega)) only [go_sem, get_set, ↓reduceIte, Nat.reduceEqDiff, Nat.reduceAdd, Nat.reduceSub, Nat.reduceMul, Nat.reduceMod, Nat.reduceDiv, Nat.reduceLT, Nat.reduceLeDiff, reduceCtorEq, decide_true, decide_false, Bool.false_eq_true, true_and, and_true, eq_self, Nat.zero_add, Nat.add_zero, Nat.mul_one, Nat.zero_mul, Nat.sub_zero, List.drop_zero, List.nil_append, List.append_nil, List.cons_append, Nat.zero_le, wrap64_nat, wrap64_int, wrap8u_lt, wrap32u_lt, wrap64u_lt, subI_nat, ixs_at, slcS_at, ia_sl, ia_ar, hadd_eq, hadd_ne, hset_eq, hset_ne, hkill_ne, at_add_same, at_add_ne, at_set_same, at_set_ne, at_kill_ne, mks_ok, bin_s_add]
      exact .inr hst
  · have : k = m.choices[s].length := by omega
    subst this
    rw [List.drop_length] at hi
    simp (maxSteps := 10000000) (implicitDefEqProofs := false) (disch := first | omega | (simp only [add_nx, set_nx, kill_nx, bump_nx]; omega)) only [go_sem, get_set, ↓reduceIte, Nat.reduceEqDiff, Nat.reduceAdd, Nat.reduceSub, Nat.reduceMul, Nat.reduceMod, Nat.reduceDiv, Nat.reduceLT, Nat.reduceLeDiff, reduceCtorEq, decide_true, decide_false, Bool.false_eq_true, true_and, and_true, eq_self, Nat.zero_add, Nat.add_zero, Nat.mul_one, Nat.zero_mul, Nat.sub_zero, List.drop_zero, List.nil_append, List.append_nil, List.cons_append, Nat.zero_le, wrap64_nat, wrap64_int, wrap8u_lt, wrap32u_lt, wrap64u_lt, subI_nat, ixs_at, slcS_at, ia_sl, ia_ar, hadd_eq, hadd_ne, hset_eq, hset_ne, hkill_ne, at_add_same, at_add_ne, at_set_same, at_set_ne, at_kill_ne, mks_ok, bin_s_add, l78_0, g16, g17, hlt]
    exact .inl hi

theorem all_iter {m : Mo} (A : AllOK h0 l M o c Inv Stop m) (hp : Hp) (hi : Inv (allC m) hp) : Yv (E (.call 78 [.fy l, .p M 0] hp)) fun v hp' => v = .tu [] ∧ (Inv [] hp' ∨ Stop hp') := by
  rw [e78]
  obtain ⟨gr, gM⟩ := A.inv _ _ hi
  have aM : hp.at M 1 = some c := by rw [at_of gM]; rfl
  have gl := A.mo.2.len
  simp (maxSteps := 10000000) (implicitDefEqProofs := false) (disch := first | omega | (simp only [add_nx, set_nx, kill_nx, bump_nx]; omega)) only [go_sem, get_set, ↓reduceIte, Nat.reduceEqDiff, Nat.reduceAdd, Nat.reduceSub, Nat.reduceMul, Nat.reduceMod, Nat.reduceDiv, Nat.reduceLT, Nat.reduceLeDiff, reduceCtorEq, decide_true, decide_false, Bool.false_eq_true, true_and, and_true, eq_self, Nat.zero_add, Nat.add_zero, Nat.mul_one, Nat.zero_mul, Nat.sub_zero, List.drop_zero, List.nil_append, List.append_nil, List.cons_append, Nat.zero_le, wrap64_nat, wrap64_int, wrap8u_lt, wrap32u_lt, wrap64u_lt, subI_nat, ixs_at, slcS_at, ia_sl, ia_ar, hadd_eq, hadd_ne, hset_eq, hset_ne, hkill_ne, at_add_same, at_add_ne, at_set_same, at_set_ne, at_kill_ne, mks_ok, bin_s_add, b78, aM, gl]
  refine (E_rule (rd := none) (b := l78_1) (α := Nat) (df := []) (fun s tm hp => s ≤ m.choices.length ∧ Inv (allFrom s (m.choices.drop s)) hp ∧ tm.get 10 = some (.i .i64 (s : Int))) (fun s => m.choices.length - s)
    (fun e tm hp => (e = .exit 0 ∧ Inv [] hp) ∨ (e = .ret ∧ Stop hp)) (by rfl) ?_ 0 _ hp ⟨by omega, hi, by simp (maxSteps := 10000000) (implicitDefEqProofs := false) only [go_sem, get_set, ↓reduceIte, Nat.reduceEqDiff, Nat.reduceAdd, Nat.reduceSub, Nat.reduceMul, Nat.reduceMod, Nat.reduceDiv, Nat.reduceLT, Nat.reduceLeDiff, reduceCtorEq, decide_true, decide_false, Bool.false_eq_true, true_and, and_true, eq_self, Nat.zero_add, Nat.add_zero, Nat.mul_one, Nat.zero_mul, Nat.sub_zero, List.drop_zero, List.nil_append, List.append_nil, List.cons_append, Nat.zero_le]⟩ (AlB.refl _ _)).mono ?_
  · rintro s tm' h' ⟨hk, hi, g10⟩ al
    have g0 := al 0 (by rfl)
    have g8 := al 8 (by rfl)
    have g9 := al 9 (by rfl)
    simp (maxSteps := 10000000) (implicitDefEqProofs := false) only [go_sem, get_set, ↓reduceIte, Nat.reduceEqDiff, Nat.reduceAdd, Nat.reduceSub, Nat.reduceMul, Nat.reduceMod, Nat.reduceDiv, Nat.reduceLT, Nat.reduceLeDiff, reduceCtorEq, decide_true, decide_false, Bool.false_eq_true, true_and, and_true, eq_self, Nat.zero_add, Nat.add_zero, Nat.mul_one, Nat.zero_mul, Nat.sub_zero, List.drop_zero, List.nil_append, List.append_nil, List.cons_append, Nat.zero_le] at g0 g8 g9
    by_cases hlt : s < m.choices.length
    · obtain ⟨id, off, x, a1, ⟨lv, e1, hlv⟩, a3⟩ := A.mo.2.ia1 (k := .i64) hlt
      obtain rfl : x = lv := by simpa using e1
      obtain ⟨gr, gM⟩ := A.inv _ _ hi
      have a3 := gr.at a3
      have gll := hlv.len
      have hsm := A.small.1
      simp (maxSteps := 10000000) (implicitDefEqProofs := false) (disch := first | omega | (simp only [add_nx, set_nx, kill_nx, bump_nx]; omega)) only [go_sem, get_set, ↓reduceIte, Nat.reduceEqDiff, Nat.reduceAdd, Nat.reduceSub, Nat.reduceMul, Nat.reduceMod, Nat.reduceDiv, Nat.reduceLT, Nat.reduceLeDiff, reduceCtorEq, decide_true, decide_false, Bool.false_eq_true, true_and, and_true, eq_self, Nat.zero_add, Nat.add_zero, Nat.mul_one, Nat.zero_mul, Nat.sub_zero, List.drop_zero, List.nil_append, List.append_nil, List.cons_append, Nat.zero_le, wrap64_nat, wrap64_int, wrap8u_lt, wrap32u_lt, wrap64u_lt, subI_nat, ixs_at, slcS_at, ia_sl, ia_ar, hadd_eq, hadd_ne, hset_eq, hset_ne, hkill_ne, at_add_same, at_add_ne, at_set_same, at_set_ne, at_kill_ne, mks_ok, bin_s_add, l78_1, g0, g8, g9, g10, hlt, a1, a3, gll]
      refine (all_inner A s hlt x hlv _ h' hi (by simp (maxSteps := 10000000) (implicitDefEqProofs := false) only [go_sem, get_set, ↓reduceIte, Nat.reduceEqDiff, Nat.reduceAdd, Nat.reduceSub, Nat.reduceMul, Nat.reduceMod, Nat.reduceDiv, Nat.reduceLT, Nat.reduceLeDiff, reduceCtorEq, decide_true, decide_false, Bool.false_eq_true, true_and, and_true, eq_self, Nat.zero_add, Nat.add_zero, Nat.mul_one, Nat.zero_mul, Nat.sub_zero, List.drop_zero, List.nil_append, List.append_nil, List.cons_append, Nat.zero_le, g0]) (by simp (maxSteps := 10000000) (implicitDefEqProofs := false) only [go_sem, get_set, ↓reduceIte, Nat.reduceEqDiff, Nat.reduceAdd, Nat.reduceSub, Nat.reduceMul, Nat.reduceMod, Nat.reduceDiv, Nat.reduceLT, Nat.reduceLeDiff, reduceCtorEq, decide_true, decide_false, Bool.false_eq_true, true_and, and_true, eq_self, Nat.zero_add, Nat.add_zero, Nat.mul_one, Nat.zero_mul, Nat.sub_zero, List.drop_zero, List.nil_append, List.append_nil, List.cons_append, Nat.zero_le]) (by simp (maxSteps := 10000000) (implicitDefEqProofs := false) only [go_sem, get_set, ↓reduceIte, Nat.reduceEqDiff, Nat.reduceAdd, Nat.reduceSub, Nat.reduceMul, Nat.reduceMod, Nat.reduceDiv, Nat.reduceLT, Nat.reduceLeDiff, reduceCtorEq, decide_true, decide_false, Bool.false_eq_true, true_and, and_true, eq_self, Nat.zero_add, Nat.add_zero, Nat.mul_one, Nat.zero_mul, Nat.sub_zero, List.drop_zero, List.nil_append, List.append_nil, List.cons_append, Nat.zero_le]) (by simp (maxSteps := 10000000) (implicitDefEqProofs := false) only [go_sem, get_set, ↓reduceIte, Nat.reduceEqDiff, Nat.reduceAdd, Nat.reduceSub, Nat.reduceMul, Nat.reduceMod, Nat.reduceDiv, Nat.reduceLT, Nat.reduceLeDiff, reduceCtorEq, decide_true, decide_false, Bool.false_eq_true, true_and, and_true, eq_self, Nat.zero_add, Nat.add_zero, Nat.mul_one, Nat.zero_mul, Nat.sub_zero, List.drop_zero, List.nil_append, List.append_nil, List.cons_append, Nat.zero_le]) (by simp (maxSteps := 10000000) (implicitDefEqProofs := false) only [go_sem, get_set, ↓reduceIte, Nat.reduceEqDiff, Nat.reduceAdd, Nat.reduceSub, Nat.reduceMul, Nat.reduceMod, Nat.reduceDiv, Nat.reduceLT, Nat.reduceLeDiff, reduceCtorEq, decide_true, decide_false, Bool.false_eq_true, true_and, and_true, eq_self, Nat.zero_add, Nat.add_zero, Nat.mul_one, Nat.zero_mul, Nat.sub_zero, List.drop_zero, List.nil_append, List.append_nil, List.cons_append, Nat.zero_le])).mono ?_
      rintro e ⟨tm2, df2, h2⟩ ⟨rfl, al2, ⟨rfl, hi2⟩ | ⟨rfl, hst⟩⟩
      · have k10 := al2 10 (by rfl)
        simp (maxSteps := 10000000) (implicitDefEqProofs := false) only [go_sem, get_set, ↓reduceIte, Nat.reduceEqDiff, Nat.reduceAdd, Nat.reduceSub, Nat.reduceMul, Nat.reduceMod, Nat.reduceDiv, Nat.reduceLT, Nat.reduceLeDiff, reduceCtorEq, decide_true, decide_false, Bool.false_eq_true, true_and, and_true, eq_self, Nat.zero_add, Nat.add_zero, Nat.mul_one, Nat.zero_mul, Nat.sub_zero, List.drop_zero, List.nil_append, List.append_nil, List.cons_append, Nat.zero_le, g10] at k10
        simp (maxSteps := 10000000) (implicitDefEqProofs := false) (disch := first | omega | (simp only [add_nx, set_nx, kill_nx, bump_nx]; omega)) only [go_sem, get_set, ↓reduceIte, Nat.reduceEqDiff, Nat.reduceAdd, Nat.reduceSub, Nat.reduceMul, Nat.reduceMod, Nat.reduceDiv, Nat.reduceLT, Nat.reduceLeDiff, reduceCtorEq, decide_true, decide_false, Bool.false_eq_true, true_and, and_true, eq_self, Nat.zero_add, Nat.add_zero, Nat.mul_one, Nat.zero_mul, Nat.sub_zero, List.drop_zero, List.nil_append, List.append_nil, List.cons_append, Nat.zero_le, wrap64_nat, wrap64_int, wrap8u_lt, wrap32u_lt, wrap64u_lt, subI_nat, ixs_at, slcS_at, ia_sl, ia_ar, hadd_eq, hadd_ne, hset_eq, hset_ne, hkill_ne, at_add_same, at_add_ne, at_set_same, at_set_ne, at_kill_ne, mks_ok, bin_s_add, k10]
        exact ⟨s + 1, by omega, by omega, hi2, rfl⟩
      · simp (maxSteps := 10000000) (implicitDefEqProofs := false) (disch := first | omega | (simp only [add_nx, set_nx, kill_nx, bump_nx]; omega)) only [go_sem, get_set, ↓reduceIte, Nat.reduceEqDiff, Nat.reduceAdd, Nat.reduceSub, Nat.reduceMul, Nat.reduceMod, Nat.reduceDiv, Nat.reduceLT, Nat.reduceLeDiff, reduceCtorEq, decide_true, decide_false, Bool.false_eq_true, true_and, and_true, eq_self, Nat.zero_add, Nat.add_zero, Nat.mul_one, Nat.zero_mul, Nat.sub_zero, List.drop_zero, List.nil_append, List.append_nil, List.cons_append, Nat.zero_le, wrap64_nat, wrap64_int, wrap8u_lt, wrap32u_lt, wrap64u_lt, subI_nat, ixs_at, slcS_at, ia_sl, ia_ar, hadd_eq, hadd_ne, hset_eq, hset_ne, hkill_ne, at_add_same, at_add_ne, at_set_same, at_set_ne, at_kill_ne, mks_ok, bin_s_add]
        exact .inr hst
    · have : s = m.choices.length := by omega
      subst this
      rw [List.drop_length] at hi
      simp (maxSteps := 10000000) (implicitDefEqProofs := false) (disch := first | omega | (simp only [add_nx, set_nx, kill_nx, bump_nx]; omega)) only [go_sem, get_set, ↓reduceIte, Nat.reduceEqDiff, Nat.reduceAdd, Nat.reduceSub, Nat.reduceMul, Nat.reduceMod, Nat.reduceDiv, Nat.reduceLT, Nat.reduceLeDiff, reduceCtorEq, decide_true, decide_false, Bool.false_eq_true, true_and, and_true, eq_self, Nat.zero_add, Nat.add_zero, Nat.mul_one, Nat.zero_mul, Nat.sub_zero, List.drop_zero, List.nil_append, List.append_nil, List.cons_append, Nat.zero_le, wrap64_nat, wrap64_int, wrap8u_lt, wrap32u_lt, wrap64u_lt, subI_nat, ixs_at, slcS_at, ia_sl, ia_ar, hadd_eq, hadd_ne, hset_eq, hset_ne, hkill_ne, at_add_same, at_add_ne, at_set_same, at_set_ne, at_kill_ne, mks_ok, bin_s_add, l78_1, g9, g10, hlt]
      exact .inl hi
  · rintro e ⟨tm, df, h'⟩ ⟨rfl, al, ⟨rfl, hi⟩ | ⟨rfl, hst⟩⟩
    · simp (maxSteps := 10000000) (implicitDefEqProofs := false) (disch := first | omega | (simp only [add_nx, set_nx, kill_nx, bump_nx]; omega)) only [go_sem, get_set, ↓reduceIte, Nat.reduceEqDiff, Nat.reduceAdd, Nat.reduceSub, Nat.reduceMul, Nat.reduceMod, Nat.reduceDiv, Nat.reduceLT, Nat.reduceLeDiff, reduceCtorEq, decide_true, decide_false, Bool.false_eq_true, true_and, and_true, eq_self, Nat.zero_add, Nat.add_zero, Nat.mul_one, Nat.zero_mul, Nat.sub_zero, List.drop_zero, List.nil_append, List.append_nil, List.cons_append, Nat.zero_le, wrap64_nat, wrap64_int, wrap8u_lt, wrap32u_lt, wrap64u_lt, subI_nat, ixs_at, slcS_at, ia_sl, ia_ar, hadd_eq, hadd_ne, hset_eq, hset_ne, hkill_ne, at_add_same, at_add_ne, at_set_same, at_set_ne, at_kill_ne, mks_ok, bin_s_add]
      exact .inl hi
    · simp (maxSteps := 10000000) (implicitDefEqProofs := false) (disch := first | omega | (simp only [add_nx, set_nx, kill_nx, bump_nx]; omega)) only [go_sem, get_set, ↓reduceIte, Nat.reduceEqDiff, Nat.reduceAdd, Nat.reduceSub, Nat.reduceMul, Nat.reduceMod, Nat.reduceDiv, Nat.reduceLT, Nat.reduceLeDiff, reduceCtorEq, decide_true, decide_false, Bool.false_eq_true, true_and, and_true, eq_self, Nat.zero_add, Nat.add_zero, Nat.mul_one, Nat.zero_mul, Nat.sub_zero, List.drop_zero, List.nil_append, List.append_nil, List.cons_append, Nat.zero_le, wrap64_nat, wrap64_int, wrap8u_lt, wrap32u_lt, wrap64u_lt, subI_nat, ixs_at, slcS_at, ia_sl, ia_ar, hadd_eq, hadd_ne, hset_eq, hset_ne, hkill_ne, at_add_same, at_add_ne, at_set_same, at_set_ne, at_kill_ne, mks_ok, bin_s_add]
      exact .inr hst
end
end Go.Proofs.YtgnpoaoekhplhaaGreatDoor.AE.Tst
set_option linter.unusedVariables false
set_option linter.unusedSimpArgs false
namespace Go.Proofs.YtgnpoaoekhplhaaGreatDoor.AE.Tst
open Go Go.Proofs.YtgnpoaoekhplhaaGreatDoor.AE Go.Proofs.YtgnpoaoekhplhaaGreatDoor.AE.Sim

/-- A statement that ranges over all choices. -/
theorem rf_all {h0 : Hp} {M : Nat} {o c : V} {m : Mo} (hm : MoR h0 o c m) (hsm : m.choices.length ≤ 1099511627776 ∧ ∀ x ∈ m.choices, x.length ≤ 1099511627776)
    {f : AO} {p1 p2 : Nat} {a b : AC} {tm : Tm} {df : List Nat} {hp : Hp} (U : List (Nat × Ch) → Hp → Prop) (S : Ex → Hp → Prop)
    (hf : f.ev tm = some (.fn 78 [] [.p M 0]))
    (hU : ∀ rem h, U rem h → Gr h0 h ∧ h.get M = some (.c [o, c] 32 none false false 0))
    (hg : ∀ rem h h', U rem h → Gr h h' → U rem h')
    (start : U (allC m) ((hp.add .d).add (.l .ready none tm [p1, p2] a b hp.nx)))
    (step : ∀ (rdy bsy : O) (dn : Ex → O) s ch rem h nv, U ((s, ch) :: rem) h → h.get (hp.nx + 1) = some rdy → NextR h0 nv ch.next →
      Yc (cd a E (some (hp.nx + 1)) ⟨(tm.set p1 (some (.i .i64 ((s : Nat) : Int)))).set p2 (some (.ag [.s ch.act, .s ch.gain, nv])), [], h⟩) fun x st => x = .nor ∧ st.h.get (hp.nx + 1) = some rdy ∧
      Yc (cd b E (some (hp.nx + 1)) ⟨st.tm, st.df, st.h.set (hp.nx + 1) bsy⟩) fun x st2 => st2.h.get (hp.nx + 1) = some bsy ∧ (match x with
        | .nor => U rem (st2.h.set (hp.nx + 1) rdy)
        | x => S x (st2.h.set (hp.nx + 1) (dn x)))) :
    Yc (cd (.rf f [p1, p2] a b) E none ⟨tm, df, hp⟩) fun e st => st.tm = tm ∧ st.df = hp.nx :: df ∧ ((e = .nor ∧ ∃ h, U [] h ∧ st.h = h.kill (hp.nx + 1)) ∨ (∃ h, e ≠ .nor ∧ S e h ∧ st.h = h.kill (hp.nx + 1))) := by
  have A : AllOK h0 (hp.nx + 1) M o c (fun rem h => U rem h ∧ h.get (hp.nx + 1) = some (.l .ready none tm [p1, p2] a b hp.nx)) (fun h => ∃ x, x ≠ .nor ∧ S x h ∧ h.get (hp.nx + 1) = some (.l .done (some x) tm [p1, p2] a b hp.nx)) m := by
    refine ⟨hm, fun rem h hi => hU rem h hi.1, fun rem h h' hi gr => ⟨hg _ _ _ hi.1 gr, gr.keep _ _ hi.2⟩, fun s ch rem h nv hi hn => ?_, hsm⟩
    refine yield_rule hi.2 (tm' := (tm.set p1 (some (.i .i64 ((s : Nat) : Int)))).set p2 (some (.ag [.s ch.act, .s ch.gain, nv]))) rfl ?_
    refine (step (.l .ready none tm [p1, p2] a b hp.nx) (.l .busy none tm [p1, p2] a b hp.nx) (fun x => .l .done (some x) tm [p1, p2] a b hp.nx) s ch rem h nv hi.1 hi.2 hn).mono ?_
    rintro e st ⟨rfl, g1, hb⟩
    refine ⟨rfl, g1, hb.mono ?_⟩
    rintro e st2 ⟨g2, hx⟩
    refine ⟨g2, ?_⟩
    cases e with
    | nor => exact .inl ⟨rfl, hx, hset_same _ _ _⟩
    | ret => exact .inr ⟨rfl, .ret, by simp, hx, hset_same _ _ _⟩
    | exit j => exact .inr ⟨rfl, .exit j, by simp, hx, hset_same _ _ _⟩
  have hstart : ((hp.add .d).add (.l .ready none tm [p1, p2] a b hp.nx)).get (hp.nx + 1) = some (.l .ready none tm [p1, p2] a b hp.nx) := hadd_same (hp.add .d) _
  have key := all_iter A _ ⟨start, hstart⟩
  have e0 : cd (.rf f [p1, p2] a b) E none ⟨tm, df, hp⟩ = rfGo [p1, p2] a b E ⟨tm, df, hp⟩ (f.ev tm) (some (hp.nx, hp.add .d, hp.nx :: df)) := rfl
  rw [e0, hf]
  obtain ⟨v, h1, e1, rfl, hx⟩ := key.elim
  have e2 : rfGo [p1, p2] a b E ⟨tm, df, hp⟩ (some (.fn 78 [] [.p M 0])) (some (hp.nx, hp.add .d, hp.nx :: df)) =
    rfO (hp.nx + 1) tm (hp.nx :: df) (E (.call 78 [.fy (hp.nx + 1), .p M 0] ((hp.add .d).add (.l .ready none tm [p1, p2] a b hp.nx)))) := rfl
  rw [e2, e1]
  show Yc (rfEnd (hp.nx + 1) tm (hp.nx :: df) h1) _
  unfold rfEnd
  rcases hx with ⟨hx, g1⟩ | ⟨x, hx1, hx2, g1⟩
  · rw [g1]
    exact ⟨rfl, rfl, .inl ⟨rfl, h1, hx, rfl⟩⟩
  · rw [g1]
    exact ⟨rfl, rfl, .inr ⟨h1, hx1, hx2, rfl⟩⟩

/-! ### named -/
def letter (c : UInt8) : Bool := decide (97 ≤ c.toNat) && decide (c.toNat ≤ 122)
def actB (l : List UInt8) : Bool := decide (l.length ≤ 8) && l.all letter
def namedB (m : Mo) : Bool := (allC m).all fun x => actB x.2.act
theorem letter1 (x : UInt8) (h : Hp) : E (.call 94 [.i .u8 ((x.toNat : Nat) : Int)] h) = some (.val (.b (!letter x)) h) := by
  rw [e94]
  unfold letter
  by_cases h0 : x.toNat < 97
  · rw [show (!(decide (97 ≤ x.toNat) && decide (x.toNat ≤ 122))) = true by rw [decide_eq_false (show ¬ 97 ≤ x.toNat by omega)]; rfl]
    simp (maxSteps := 10000000) (implicitDefEqProofs := false) (disch := first | omega | (simp only [add_nx, set_nx, kill_nx, bump_nx]; omega)) only [go_sem, get_set, ↓reduceIte, Nat.reduceEqDiff, Nat.reduceAdd, Nat.reduceSub, Nat.reduceMul, Nat.reduceMod, Nat.reduceDiv, Nat.reduceLT, Nat.reduceLeDiff, reduceCtorEq, decide_true, decide_false, Bool.false_eq_true, true_and, and_true, eq_self, Nat.zero_add, Nat.add_zero, Nat.mul_one, Nat.zero_mul, Nat.sub_zero, List.drop_zero, List.nil_append, List.append_nil, List.cons_append, Nat.zero_le, wrap64_nat, wrap64_int, wrap8u_lt, wrap32u_lt, wrap64u_lt, subI_nat, ixs_at, slcS_at, ia_sl, ia_ar, hadd_eq, hadd_ne, hset_eq, hset_ne, hkill_ne, at_add_same, at_add_ne, at_set_same, at_set_ne, at_kill_ne, mks_ok, bin_s_add, b94, h0]
  · by_cases h1 : 122 < x.toNat
    · rw [show (!(decide (97 ≤ x.toNat) && decide (x.toNat ≤ 122))) = true by rw [decide_eq_false (show ¬ x.toNat ≤ 122 by omega), Bool.and_false]; rfl]
      simp (maxSteps := 10000000) (implicitDefEqProofs := false) (disch := first | omega | (simp only [add_nx, set_nx, kill_nx, bump_nx]; omega)) only [go_sem, get_set, ↓reduceIte, Nat.reduceEqDiff, Nat.reduceAdd, Nat.reduceSub, Nat.reduceMul, Nat.reduceMod, Nat.reduceDiv, Nat.reduceLT, Nat.reduceLeDiff, reduceCtorEq, decide_true, decide_false, Bool.false_eq_true, true_and, and_true, eq_self, Nat.zero_add, Nat.add_zero, Nat.mul_one, Nat.zero_mul, Nat.sub_zero, List.drop_zero, List.nil_append, List.append_nil, List.cons_append, Nat.zero_le, wrap64_nat, wrap64_int, wrap8u_lt, wrap32u_lt, wrap64u_lt, subI_nat, ixs_at, slcS_at, ia_sl, ia_ar, hadd_eq, hadd_ne, hset_eq, hset_ne, hkill_ne, at_add_same, at_add_ne, at_set_same, at_set_ne, at_kill_ne, mks_ok, bin_s_add, b94, h0, h1]
    · rw [show (!(decide (97 ≤ x.toNat) && decide (x.toNat ≤ 122))) = false by rw [decide_eq_true (show 97 ≤ x.toNat by omega), decide_eq_true (show x.toNat ≤ 122 by omega)]; rfl]
      simp (maxSteps := 10000000) (implicitDefEqProofs := false) (disch := first | omega | (simp only [add_nx, set_nx, kill_nx, bump_nx]; omega)) only [go_sem, get_set, ↓reduceIte, Nat.reduceEqDiff, Nat.reduceAdd, Nat.reduceSub, Nat.reduceMul, Nat.reduceMod, Nat.reduceDiv, Nat.reduceLT, Nat.reduceLeDiff, reduceCtorEq, decide_true, decide_false, Bool.false_eq_true, true_and, and_true, eq_self, Nat.zero_add, Nat.add_zero, Nat.mul_one, Nat.zero_mul, Nat.sub_zero, List.drop_zero, List.nil_append, List.append_nil, List.cons_append, Nat.zero_le, wrap64_nat, wrap64_int, wrap8u_lt, wrap32u_lt, wrap64u_lt, subI_nat, ixs_at, slcS_at, ia_sl, ia_ar, hadd_eq, hadd_ne, hset_eq, hset_ne, hkill_ne, at_add_same, at_add_ne, at_set_same, at_set_ne, at_kill_ne, mks_ok, bin_s_add, b94, h0, h1]
theorem bytes_isSl (h : Hp) (l : List UInt8) (ty : Nat) : IsSl (h.add (.c (bytesV l) ty (some 1) false true 0)) 1 (.sl h.nx 0 l.length none) l.length (bytesV l) := by
  have hl : (bytesV l).length = l.length := by simp [bytesV]
  refine ⟨by rw [hl]; omega, .inr ⟨h.nx, 0, none, rfl, fun i hi => ?_, ⟨_, _, _, _, _, hadd_same h _, by rw [hl]; simp⟩⟩⟩
  rw [Nat.zero_add, at_of (hadd_same h _), List.getElem?_eq_getElem hi]
theorem letters_ok (h : Hp) (ok : h.Ok) (l : List UInt8) (hl : l.length ≤ 1099511627776) :
    Yv (E (.call 93 [.sl h.nx 0 l.length none, .fn 94 [] []] (h.add (.c (bytesV l) 5 (some 1) false true 0)))) fun v h' => v = .b (!l.all letter) ∧ Gr h h' := by
  have g := (Gr.refl ok).add (.c (bytesV l) 5 (some 1) false true 0)
  have hbl : (bytesV l).length = l.length := by simp [bytesV]
  refine (containsFunc93 _ g.ok _ l.length 94 (bytesV l) (fun i => !letter (l.getD i 0)) (bytes_isSl h l 5) hl (fun i hi h' gr => ?_)).mono ?_
  · have hi' : i < l.length := by omega
    have e1 : (bytesV l)[i] = .i .u8 ((l[i].toNat : Nat) : Int) := by simp [bytesV]
    have e2 : l.getD i 0 = l[i] := by simp [List.getD, List.getElem?_eq_getElem hi']
    show Yv _ fun v h'' => v = V.b (!letter (l.getD i 0)) ∧ Gr h' h''
    rw [e1, letter1, e2]
    exact ⟨rfl, Gr.refl gr.ok⟩
  · rintro v h' ⟨rfl, gr⟩
    refine ⟨?_, g.trans gr⟩
    congr 1
    unfold anyB
    rw [Bool.eq_iff_iff]
    simp only [List.any_eq_true, List.mem_range, Bool.not_eq_true', List.all_eq_false]
    constructor
    · rintro ⟨i, hi, hx⟩
      refine ⟨l[i], List.getElem_mem hi, ?_⟩
      simp [List.getD, List.getElem?_eq_getElem hi] at hx
      simp [hx]
    · rintro ⟨x, hx, hn⟩
      obtain ⟨i, hi, rfl⟩ := List.getElem_of_mem hx
      refine ⟨i, hi, ?_⟩
      simp [List.getD, List.getElem?_eq_getElem hi]
      simpa using hn
end Go.Proofs.YtgnpoaoekhplhaaGreatDoor.AE.Tst
set_option linter.unusedVariables false
set_option linter.unusedSimpArgs false
namespace Go.Proofs.YtgnpoaoekhplhaaGreatDoor.AE.Tst
open Go Go.Proofs.YtgnpoaoekhplhaaGreatDoor.AE Go.Proofs.YtgnpoaoekhplhaaGreatDoor.AE.Sim

theorem all_ok (o c : V) (h : Hp) (hc : o.cells = [o]) (hc2 : c.cells = [c]) : E (.call 49 [.ag [o, c]] h) = some (.val (.fn 78 [] [.p h.nx 0]) (h.add (.c [o, c] 32 none false false 0))) := by
  rw [e49]
  simp (maxSteps := 10000000) (implicitDefEqProofs := false) (disch := first | omega | (simp only [add_nx, set_nx, kill_nx, bump_nx]; omega)) only [go_sem, get_set, ↓reduceIte, Nat.reduceEqDiff, Nat.reduceAdd, Nat.reduceSub, Nat.reduceMul, Nat.reduceMod, Nat.reduceDiv, Nat.reduceLT, Nat.reduceLeDiff, reduceCtorEq, decide_true, decide_false, Bool.false_eq_true, true_and, and_true, eq_self, Nat.zero_add, Nat.add_zero, Nat.mul_one, Nat.zero_mul, Nat.sub_zero, List.drop_zero, List.nil_append, List.append_nil, List.cons_append, Nat.zero_le, wrap64_nat, wrap64_int, wrap8u_lt, wrap32u_lt, wrap64u_lt, subI_nat, ixs_at, slcS_at, ia_sl, ia_ar, hadd_eq, hadd_ne, hset_eq, hset_ne, hkill_ne, at_add_same, at_add_ne, at_set_same, at_set_ne, at_kill_ne, mks_ok, bin_s_add, b49]
def SmallMo (m : Mo) : Prop := m.owner.length ≤ 1048576 ∧ m.choices.length ≤ 1048576 ∧ (∀ x ∈ m.choices, x.length ≤ 1048576 ∧ ∀ ch ∈ x, ch.act.length ≤ 1048576 ∧ ch.gain.length ≤ 1048576 ∧ ch.next.length ≤ 1048576 ∧ ∀ b ∈ ch.next, b.p.length ≤ 1048576)
theorem SmallMo.loops {m : Mo} (h : SmallMo m) : m.choices.length ≤ 1099511627776 ∧ ∀ x ∈ m.choices, x.length ≤ 1099511627776 := ⟨by have := h.2.1; omega, fun x hx => by have := (h.2.2 x hx).1; omega⟩
theorem mem_allFrom : ∀ {ll : List (List Ch)} {s : Nat} {x : Nat × Ch}, x ∈ allFrom s ll → ∃ l ∈ ll, x.2 ∈ l
  | [], s, x, h => by simp [allFrom] at h
  | l :: ll, s, x, h => by
    simp only [allFrom, List.mem_append, List.mem_map] at h
    rcases h with ⟨c, hc, rfl⟩ | h
    · exact ⟨l, by simp, hc⟩
    · obtain ⟨l', h1, h2⟩ := mem_allFrom h
      exact ⟨l', by simp [h1], h2⟩

theorem named_ok (h : Hp) (ok : h.Ok) (C : Nat) (o c : V) (p g : Int) (m : Mo) (ck : CkR h C o c p g) (hm : MoR h o c m) (sm : SmallMo m) :
    Yv (E (.call 74 [.p C 0] h)) fun v h' => v = .b (namedB m) ∧ Gr h h' := by
  obtain ⟨a0, a1, _, _⟩ := ckR_at ck
  have n0 := hm.1.num.1
  have n1 := hm.2.num.1
  have hCl := ok.lt ck
  have hCne : C ≠ h.nx := by omega
  rw [e74]
  have cg : (h.add (.c [.b false] 4 none false false 0)).get C = some (.c [o, c, .i .i64 p, .i .i64 g] 86 none false false 0) := by rw [hadd_ne _ _ hCne]; exact ck
  simp (maxSteps := 10000000) (implicitDefEqProofs := false) (disch := first | omega | (simp only [add_nx, set_nx, kill_nx, bump_nx]; omega)) only [go_sem, get_set, ↓reduceIte, Nat.reduceEqDiff, Nat.reduceAdd, Nat.reduceSub, Nat.reduceMul, Nat.reduceMod, Nat.reduceDiv, Nat.reduceLT, Nat.reduceLeDiff, reduceCtorEq, decide_true, decide_false, Bool.false_eq_true, true_and, and_true, eq_self, Nat.zero_add, Nat.add_zero, Nat.mul_one, Nat.zero_mul, Nat.sub_zero, List.drop_zero, List.nil_append, List.append_nil, List.cons_append, Nat.zero_le, wrap64_nat, wrap64_int, wrap8u_lt, wrap32u_lt, wrap64u_lt, subI_nat, ixs_at, slcS_at, ia_sl, ia_ar, hadd_eq, hadd_ne, hset_eq, hset_ne, hkill_ne, at_add_same, at_add_ne, at_set_same, at_set_ne, at_kill_ne, mks_ok, bin_s_add, b74, cg, all_ok, n0, n1]
  have g1 := ((Gr.refl ok).add (.c [.b false] 4 none false false 0)).add (.c [o, c] 32 none false false 0)
  generalize hH : (h.add (.c [.b false] 4 none false false 0)).add (.c [o, c] 32 none false false 0) = H at g1 ⊢
  have hnx : H.nx = h.nx + 2 := by rw [← hH]; rfl
  have gr0 : H.get h.nx = some (.c [.b false] 4 none false false 0) := by rw [← hH, hadd_ne _ _ (by show h.nx ≠ h.nx + 1; omega)]; exact hadd_same _ _
  have gM0 : H.get (h.nx + 1) = some (.c [o, c] 32 none false false 0) := by rw [← hH]; exact hadd_same (h.add _) _
  refine (rf_all (m := m) hm sm.loops
    (fun rem hh => Gr h hh ∧ hh.get (h.nx + 1) = some (.c [o, c] 32 none false false 0) ∧ hh.get H.nx = some .d ∧ hh.get h.nx = some (.c [.b false] 4 none false false 0) ∧ (namedB m = rem.all fun x => actB x.2.act) ∧ (∀ x ∈ rem, x ∈ allC m))
    (fun x hh => x = .ret ∧ Gr h hh ∧ hh.get H.nx = some .d ∧ hh.get h.nx = some (.c [.b false] 4 none false false 0) ∧ namedB m = false)
    (by simp (maxSteps := 10000000) (implicitDefEqProofs := false) only [go_sem, get_set, ↓reduceIte, Nat.reduceEqDiff, Nat.reduceAdd, Nat.reduceSub, Nat.reduceMul, Nat.reduceMod, Nat.reduceDiv, Nat.reduceLT, Nat.reduceLeDiff, reduceCtorEq, decide_true, decide_false, Bool.false_eq_true, true_and, and_true, eq_self, Nat.zero_add, Nat.add_zero, Nat.mul_one, Nat.zero_mul, Nat.sub_zero, List.drop_zero, List.nil_append, List.append_nil, List.cons_append, Nat.zero_le] <;> rfl) (fun rem hh hu => ⟨hu.1, hu.2.1⟩)
    (fun rem hh hh' hu gr => ⟨hu.1.trans gr, gr.keep _ _ hu.2.1, gr.keep _ _ hu.2.2.1, gr.keep _ _ hu.2.2.2.1, hu.2.2.2.2⟩) ?_ ?_).mono ?_
  · refine ⟨(g1.add .d).add _, ?_, ?_, ?_, rfl, fun x hx => hx⟩
    · rw [hadd_ne _ _ (by show h.nx + 1 ≠ H.nx + 1; omega), hadd_ne _ _ (by omega)]; exact gM0
    · rw [hadd_ne _ _ (by show H.nx ≠ H.nx + 1; omega)]; exact hadd_same _ _
    · rw [hadd_ne _ _ (by show h.nx ≠ H.nx + 1; omega), hadd_ne _ _ (by omega)]; exact gr0
  · rintro rdy bsy dn s ch rem hh nv ⟨gr, gM, gd, gR, hnb, hmem⟩ hrec hn
    obtain ⟨k1, k2⟩ := hn.num
    have hlt : H.nx + 1 < hh.nx := gr.ok.lt hrec
    have hact : ch.act.length ≤ 1048576 := by
      obtain ⟨l, h1, h2⟩ := mem_allFrom (hmem (s, ch) (by simp))
      exact ((sm.2.2 l h1).2 ch h2).1
    have e0 : (((s, ch) :: rem).all fun x => actB x.2.act) = (actB ch.act && rem.all fun x => actB x.2.act) := rfl
    rw [e0] at hnb
    have hv := ((Gr.refl gr.ok).add (.c [.s [], .s [], .sn] 27 none false false 0)).set (j := hh.nx) (Nat.le_refl _) (Nat.lt_succ_self _) (.c [.s ch.act, .s ch.gain, nv] 27 none false false 0)
    have hv1 := hv.keep _ _ hrec
    by_cases h8 : 8 < ch.act.length
    · have ef : actB ch.act = false := by unfold actB; rw [decide_eq_false (show ¬ ch.act.length ≤ 8 by omega)]; rfl
      rw [ef, Bool.false_and] at hnb
      simp (maxSteps := 10000000) (implicitDefEqProofs := false) (disch := first | omega | (simp only [add_nx, set_nx, kill_nx, bump_nx]; omega)) only [go_sem, get_set, ↓reduceIte, Nat.reduceEqDiff, Nat.reduceAdd, Nat.reduceSub, Nat.reduceMul, Nat.reduceMod, Nat.reduceDiv, Nat.reduceLT, Nat.reduceLeDiff, reduceCtorEq, decide_true, decide_false, Bool.false_eq_true, true_and, and_true, eq_self, Nat.zero_add, Nat.add_zero, Nat.mul_one, Nat.zero_mul, Nat.sub_zero, List.drop_zero, List.nil_append, List.append_nil, List.cons_append, Nat.zero_le, wrap64_nat, wrap64_int, wrap8u_lt, wrap32u_lt, wrap64u_lt, subI_nat, ixs_at, slcS_at, ia_sl, ia_ar, hadd_eq, hadd_ne, hset_eq, hset_ne, hkill_ne, at_add_same, at_add_ne, at_set_same, at_set_ne, at_kill_ne, mks_ok, bin_s_add, l74_0, k1, k2, hrec, hv1, h8, gR]
      refine ⟨?_, ?_, hnb⟩
      · exact ((((gr.trans hv).set (by omega) (by show _ < hh.nx + 1; omega) _).set (Nat.le_refl _) (by show _ < hh.nx + 1; omega) _).set (by omega) (by show _ < hh.nx + 1; omega) _)
      · simp (maxSteps := 10000000) (implicitDefEqProofs := false) (disch := first | omega | (simp only [add_nx, set_nx, kill_nx, bump_nx]; omega)) only [go_sem, get_set, ↓reduceIte, Nat.reduceEqDiff, Nat.reduceAdd, Nat.reduceSub, Nat.reduceMul, Nat.reduceMod, Nat.reduceDiv, Nat.reduceLT, Nat.reduceLeDiff, reduceCtorEq, decide_true, decide_false, Bool.false_eq_true, true_and, and_true, eq_self, Nat.zero_add, Nat.add_zero, Nat.mul_one, Nat.zero_mul, Nat.sub_zero, List.drop_zero, List.nil_append, List.append_nil, List.cons_append, Nat.zero_le, wrap64_nat, wrap64_int, wrap8u_lt, wrap32u_lt, wrap64u_lt, subI_nat, ixs_at, slcS_at, ia_sl, ia_ar, hadd_eq, hadd_ne, hset_eq, hset_ne, hkill_ne, at_add_same, at_add_ne, at_set_same, at_set_ne, at_kill_ne, mks_ok, bin_s_add, gd]
    · have e1 : decide (ch.act.length ≤ 8) = true := decide_eq_true (by omega)
      have ea : actB ch.act = ch.act.all letter := by unfold actB; rw [e1, Bool.true_and]
      rw [ea] at hnb
      simp (maxSteps := 10000000) (implicitDefEqProofs := false) (disch := first | omega | (simp only [add_nx, set_nx, kill_nx, bump_nx]; omega)) only [go_sem, get_set, ↓reduceIte, Nat.reduceEqDiff, Nat.reduceAdd, Nat.reduceSub, Nat.reduceMul, Nat.reduceMod, Nat.reduceDiv, Nat.reduceLT, Nat.reduceLeDiff, reduceCtorEq, decide_true, decide_false, Bool.false_eq_true, true_and, and_true, eq_self, Nat.zero_add, Nat.add_zero, Nat.mul_one, Nat.zero_mul, Nat.sub_zero, List.drop_zero, List.nil_append, List.append_nil, List.cons_append, Nat.zero_le, wrap64_nat, wrap64_int, wrap8u_lt, wrap32u_lt, wrap64u_lt, subI_nat, ixs_at, slcS_at, ia_sl, ia_ar, hadd_eq, hadd_ne, hset_eq, hset_ne, hkill_ne, at_add_same, at_add_ne, at_set_same, at_set_ne, at_kill_ne, mks_ok, bin_s_add, l74_0, k1, k2, hrec, hv1, h8, gR, s2b_ok]
      have gB := ((gr.trans hv).set (j := H.nx + 1) (by omega) (by show _ < hh.nx + 1; omega) bsy)
      refine (letters_ok _ gB.ok ch.act (by omega)).mono ?_
      rintro v h2 ⟨rfl, gr2⟩
      have b2 := gr2.keep _ _ (hset_same _ _ bsy)
      have d2 := gr2.keep _ _ ((hset_ne _ bsy (show H.nx ≠ H.nx + 1 by omega)).trans (hv.keep _ _ gd))
      have r2 := gr2.keep _ _ ((hset_ne _ bsy (show h.nx ≠ H.nx + 1 by omega)).trans (hv.keep _ _ gR))
      have m2 := gr2.keep _ _ ((hset_ne _ bsy (show h.nx + 1 ≠ H.nx + 1 by omega)).trans (hv.keep _ _ gM))
      have gF := gB.trans gr2
      have hl2 := gF.ok.lt b2
      cases hall : ch.act.all letter
      · rw [hall, Bool.false_and] at hnb
        simp (maxSteps := 10000000) (implicitDefEqProofs := false) (disch := first | omega | (simp only [add_nx, set_nx, kill_nx, bump_nx]; omega)) only [go_sem, get_set, ↓reduceIte, Nat.reduceEqDiff, Nat.reduceAdd, Nat.reduceSub, Nat.reduceMul, Nat.reduceMod, Nat.reduceDiv, Nat.reduceLT, Nat.reduceLeDiff, reduceCtorEq, decide_true, decide_false, Bool.false_eq_true, true_and, and_true, eq_self, Nat.zero_add, Nat.add_zero, Nat.mul_one, Nat.zero_mul, Nat.sub_zero, List.drop_zero, List.nil_append, List.append_nil, List.cons_append, Nat.zero_le, wrap64_nat, wrap64_int, wrap8u_lt, wrap32u_lt, wrap64u_lt, subI_nat, ixs_at, slcS_at, ia_sl, ia_ar, hadd_eq, hadd_ne, hset_eq, hset_ne, hkill_ne, at_add_same, at_add_ne, at_set_same, at_set_ne, at_kill_ne, mks_ok, bin_s_add, hall, r2, b2]
        refine ⟨((gF.set (Nat.le_refl _) (by omega) _).set (by omega) hl2 _), ?_, hnb⟩
        · simp (maxSteps := 10000000) (implicitDefEqProofs := false) (disch := first | omega | (simp only [add_nx, set_nx, kill_nx, bump_nx]; omega)) only [go_sem, get_set, ↓reduceIte, Nat.reduceEqDiff, Nat.reduceAdd, Nat.reduceSub, Nat.reduceMul, Nat.reduceMod, Nat.reduceDiv, Nat.reduceLT, Nat.reduceLeDiff, reduceCtorEq, decide_true, decide_false, Bool.false_eq_true, true_and, and_true, eq_self, Nat.zero_add, Nat.add_zero, Nat.mul_one, Nat.zero_mul, Nat.sub_zero, List.drop_zero, List.nil_append, List.append_nil, List.cons_append, Nat.zero_le, wrap64_nat, wrap64_int, wrap8u_lt, wrap32u_lt, wrap64u_lt, subI_nat, ixs_at, slcS_at, ia_sl, ia_ar, hadd_eq, hadd_ne, hset_eq, hset_ne, hkill_ne, at_add_same, at_add_ne, at_set_same, at_set_ne, at_kill_ne, mks_ok, bin_s_add, d2]
      · rw [hall, Bool.true_and] at hnb
        simp (maxSteps := 10000000) (implicitDefEqProofs := false) (disch := first | omega | (simp only [add_nx, set_nx, kill_nx, bump_nx]; omega)) only [go_sem, get_set, ↓reduceIte, Nat.reduceEqDiff, Nat.reduceAdd, Nat.reduceSub, Nat.reduceMul, Nat.reduceMod, Nat.reduceDiv, Nat.reduceLT, Nat.reduceLeDiff, reduceCtorEq, decide_true, decide_false, Bool.false_eq_true, true_and, and_true, eq_self, Nat.zero_add, Nat.add_zero, Nat.mul_one, Nat.zero_mul, Nat.sub_zero, List.drop_zero, List.nil_append, List.append_nil, List.cons_append, Nat.zero_le, wrap64_nat, wrap64_int, wrap8u_lt, wrap32u_lt, wrap64u_lt, subI_nat, ixs_at, slcS_at, ia_sl, ia_ar, hadd_eq, hadd_ne, hset_eq, hset_ne, hkill_ne, at_add_same, at_add_ne, at_set_same, at_set_ne, at_kill_ne, mks_ok, bin_s_add, hall, b2]
        refine ⟨gF.set (by omega) hl2 _, ?_, ?_, ?_, hnb, fun x hx => hmem x (List.mem_cons_of_mem _ hx)⟩
        · simp (maxSteps := 10000000) (implicitDefEqProofs := false) (disch := first | omega | (simp only [add_nx, set_nx, kill_nx, bump_nx]; omega)) only [go_sem, get_set, ↓reduceIte, Nat.reduceEqDiff, Nat.reduceAdd, Nat.reduceSub, Nat.reduceMul, Nat.reduceMod, Nat.reduceDiv, Nat.reduceLT, Nat.reduceLeDiff, reduceCtorEq, decide_true, decide_false, Bool.false_eq_true, true_and, and_true, eq_self, Nat.zero_add, Nat.add_zero, Nat.mul_one, Nat.zero_mul, Nat.sub_zero, List.drop_zero, List.nil_append, List.append_nil, List.cons_append, Nat.zero_le, wrap64_nat, wrap64_int, wrap8u_lt, wrap32u_lt, wrap64u_lt, subI_nat, ixs_at, slcS_at, ia_sl, ia_ar, hadd_eq, hadd_ne, hset_eq, hset_ne, hkill_ne, at_add_same, at_add_ne, at_set_same, at_set_ne, at_kill_ne, mks_ok, bin_s_add, m2]
        · simp (maxSteps := 10000000) (implicitDefEqProofs := false) (disch := first | omega | (simp only [add_nx, set_nx, kill_nx, bump_nx]; omega)) only [go_sem, get_set, ↓reduceIte, Nat.reduceEqDiff, Nat.reduceAdd, Nat.reduceSub, Nat.reduceMul, Nat.reduceMod, Nat.reduceDiv, Nat.reduceLT, Nat.reduceLeDiff, reduceCtorEq, decide_true, decide_false, Bool.false_eq_true, true_and, and_true, eq_self, Nat.zero_add, Nat.add_zero, Nat.mul_one, Nat.zero_mul, Nat.sub_zero, List.drop_zero, List.nil_append, List.append_nil, List.cons_append, Nat.zero_le, wrap64_nat, wrap64_int, wrap8u_lt, wrap32u_lt, wrap64u_lt, subI_nat, ixs_at, slcS_at, ia_sl, ia_ar, hadd_eq, hadd_ne, hset_eq, hset_ne, hkill_ne, at_add_same, at_add_ne, at_set_same, at_set_ne, at_kill_ne, mks_ok, bin_s_add, d2]
        · simp (maxSteps := 10000000) (implicitDefEqProofs := false) (disch := first | omega | (simp only [add_nx, set_nx, kill_nx, bump_nx]; omega)) only [go_sem, get_set, ↓reduceIte, Nat.reduceEqDiff, Nat.reduceAdd, Nat.reduceSub, Nat.reduceMul, Nat.reduceMod, Nat.reduceDiv, Nat.reduceLT, Nat.reduceLeDiff, reduceCtorEq, decide_true, decide_false, Bool.false_eq_true, true_and, and_true, eq_self, Nat.zero_add, Nat.add_zero, Nat.mul_one, Nat.zero_mul, Nat.sub_zero, List.drop_zero, List.nil_append, List.append_nil, List.cons_append, Nat.zero_le, wrap64_nat, wrap64_int, wrap8u_lt, wrap32u_lt, wrap64u_lt, subI_nat, ixs_at, slcS_at, ia_sl, ia_ar, hadd_eq, hadd_ne, hset_eq, hset_ne, hkill_ne, at_add_same, at_add_ne, at_set_same, at_set_ne, at_kill_ne, mks_ok, bin_s_add, r2]
  · rintro e ⟨tm, df, h'⟩ ⟨rfl, rfl, ⟨rfl, h1, ⟨gr, gM, gd, gR, hnb, _⟩, rfl⟩ | ⟨h1, hne, ⟨rfl, gr, gd, gR, hnb⟩, rfl⟩⟩
    · have d1 : (h1.kill (H.nx + 1)).get H.nx = some .d := by rw [hkill_ne _ (by omega)]; exact gd
      have r1 : (h1.kill (H.nx + 1)).get h.nx = some (.c [.b false] 4 none false false 0) := by rw [hkill_ne _ (by omega)]; exact gR
      have ek : takeDf [H.nx] ((h1.kill (H.nx + 1)).set h.nx (.c [.b true] 4 none false false 0)) = some (((h1.kill (H.nx + 1)).set h.nx (.c [.b true] 4 none false false 0)).kill H.nx) := by
        simp only [takeDf, hset_ne _ _ (show H.nx ≠ h.nx by omega), d1]
      have hlr := gr.ok.lt gR
      simp (maxSteps := 10000000) (implicitDefEqProofs := false) (disch := first | omega | (simp only [add_nx, set_nx, kill_nx, bump_nx]; omega)) only [go_sem, get_set, ↓reduceIte, Nat.reduceEqDiff, Nat.reduceAdd, Nat.reduceSub, Nat.reduceMul, Nat.reduceMod, Nat.reduceDiv, Nat.reduceLT, Nat.reduceLeDiff, reduceCtorEq, decide_true, decide_false, Bool.false_eq_true, true_and, and_true, eq_self, Nat.zero_add, Nat.add_zero, Nat.mul_one, Nat.zero_mul, Nat.sub_zero, List.drop_zero, List.nil_append, List.append_nil, List.cons_append, Nat.zero_le, wrap64_nat, wrap64_int, wrap8u_lt, wrap32u_lt, wrap64u_lt, subI_nat, ixs_at, slcS_at, ia_sl, ia_ar, hadd_eq, hadd_ne, hset_eq, hset_ne, hkill_ne, at_add_same, at_add_ne, at_set_same, at_set_ne, at_kill_ne, mks_ok, bin_s_add, r1, ek]
      rw [hnb]
      exact ⟨rfl, ((gr.kill (by omega)).set (Nat.le_refl _) hlr _).kill (by omega)⟩
    · have d1 : (h1.kill (H.nx + 1)).get H.nx = some .d := by rw [hkill_ne _ (by omega)]; exact gd
      have r1 : (h1.kill (H.nx + 1)).get h.nx = some (.c [.b false] 4 none false false 0) := by rw [hkill_ne _ (by omega)]; exact gR
      have ek : takeDf [H.nx] (h1.kill (H.nx + 1)) = some ((h1.kill (H.nx + 1)).kill H.nx) := by
        simp only [takeDf, d1]
      have a1 : h1.at h.nx 0 = some (.b false) := by rw [at_of gR]; rfl
      simp (maxSteps := 10000000) (implicitDefEqProofs := false) (disch := first | omega | (simp only [add_nx, set_nx, kill_nx, bump_nx]; omega)) only [go_sem, get_set, ↓reduceIte, Nat.reduceEqDiff, Nat.reduceAdd, Nat.reduceSub, Nat.reduceMul, Nat.reduceMod, Nat.reduceDiv, Nat.reduceLT, Nat.reduceLeDiff, reduceCtorEq, decide_true, decide_false, Bool.false_eq_true, true_and, and_true, eq_self, Nat.zero_add, Nat.add_zero, Nat.mul_one, Nat.zero_mul, Nat.sub_zero, List.drop_zero, List.nil_append, List.append_nil, List.cons_append, Nat.zero_le, wrap64_nat, wrap64_int, wrap8u_lt, wrap32u_lt, wrap64u_lt, subI_nat, ixs_at, slcS_at, ia_sl, ia_ar, hadd_eq, hadd_ne, hset_eq, hset_ne, hkill_ne, at_add_same, at_add_ne, at_set_same, at_set_ne, at_kill_ne, mks_ok, bin_s_add, r1, ek, a1]
      rw [hnb]
      exact ⟨rfl, (gr.kill (by omega)).kill (by omega)⟩
end Go.Proofs.YtgnpoaoekhplhaaGreatDoor.AE.Tst
set_option linter.unusedVariables false
set_option linter.unusedSimpArgs false
namespace Go.Proofs.YtgnpoaoekhplhaaGreatDoor.AE.Tst
open Go Go.Proofs.YtgnpoaoekhplhaaGreatDoor.AE Go.Proofs.YtgnpoaoekhplhaaGreatDoor.AE.Sim

/-! ### Short numbers -/
def toInt (s : List UInt8) : Int := if s.head? = some 45 then -((dval s.tail : Nat) : Int) else ((dval s : Nat) : Int)
def canB (s : List UInt8) : Bool := whCheck s != 5
def digN (s : List UInt8) : Nat := (trimP [45] s).length
def smallP (q : List UInt8) : Int × Nat × Bool :=
  match cutAt 47 q with
  | none => if canB q && decide (digN q ≤ 4) then (toInt q, 1, true) else (0, 0, false)
  | some (n, d) => if canB n && canB d && decide (2 ≤ toInt d) && decide (Nat.gcd (toInt n).natAbs (toInt d).natAbs = 1) && decide (digN n ≤ 4) && decide (digN d ≤ 4) then (toInt n, (toInt d).natAbs, true) else (0, 0, false)
/-- What model.small does at a text. -/
def SmallAt (q : List UInt8) : Prop := ∀ h : Hp, h.Ok → laidB h L11 = true → Yv (E (.call 95 [.s q] h)) fun v h' => v = .tu [.i .i64 (smallP q).1, .i .i64 (((smallP q).2.1 : Nat) : Int), .b (smallP q).2.2] ∧ Gr h h'

theorem dval_take4 {l : List UInt8} (hl : l.length ≤ 4) (hd : l.all isDig = true) : dval l ≤ 9999 := by
  have := dval_lt l hd
  have h2 : 10 ^ l.length ≤ 10 ^ 4 := Nat.pow_le_pow_right (by omega) hl
  have : (10 : Nat) ^ 4 = 10000 := by decide
  omega
theorem canB_digits {s : List UInt8} (h : canB s = true) : (trimP [45] s).all isDig = true ∧ trimP [45] s ≠ [] := by
  unfold canB whCheck at h
  split at h
  · next e => subst e; exact ⟨by decide, by decide⟩
  · split at h
    · simp at h
    · next h1 =>
      split at h
      · next h2 => exact ⟨h2, fun e => h1 (.inl e)⟩
      · simp at h
theorem toInt_abs {s : List UInt8} (h : canB s = true) : (toInt s).natAbs = dval (trimP [45] s) := by
  unfold toInt trimP
  cases s with
  | nil => simp [dval]
  | cons x l =>
    by_cases hx : x = 45
    · subst hx; simp [List.isPrefixOf]
    · have : ([45] : List UInt8).isPrefixOf (x :: l) = false := by simp [List.isPrefixOf]; exact fun e => hx e.symm
      rw [this]; simp [hx]
theorem small_bounds {q : List UInt8} (h : (smallP q).2.2 = true) : 1 ≤ (smallP q).2.1 ∧ (smallP q).2.1 ≤ 9999 ∧ -9999 ≤ (smallP q).1 ∧ (smallP q).1 ≤ 9999 := by
  unfold smallP at h ⊢
  cases e : cutAt 47 q with
  | none =>
    rw [e] at h
    dsimp only at h ⊢
    by_cases hc : (canB q && decide (digN q ≤ 4)) = true
    · rw [if_pos hc]
      simp only [Bool.and_eq_true, decide_eq_true_eq] at hc
      have h1 := toInt_abs hc.1
      have h2 := dval_take4 hc.2 (canB_digits hc.1).1
      refine ⟨Nat.le_refl _, by dsimp only; omega, by show -9999 ≤ toInt q; omega, by show toInt q ≤ 9999; omega⟩
    · rw [if_neg hc] at h; cases h
  | some x =>
    obtain ⟨n, d⟩ := x
    rw [e] at h
    dsimp only at h ⊢
    by_cases hc : (canB n && canB d && decide (2 ≤ toInt d) && decide (Nat.gcd (toInt n).natAbs (toInt d).natAbs = 1) && decide (digN n ≤ 4) && decide (digN d ≤ 4)) = true
    · rw [if_pos hc]
      simp only [Bool.and_eq_true, decide_eq_true_eq] at hc
      obtain ⟨⟨⟨⟨⟨c1, c2⟩, c3⟩, c4⟩, c5⟩, c6⟩ := hc
      have h1 := toInt_abs c1
      have h2 := dval_take4 c5 (canB_digits c1).1
      have h3 := toInt_abs c2
      have h4 := dval_take4 c6 (canB_digits c2).1
      refine ⟨by show 1 ≤ (toInt d).natAbs; omega, by show (toInt d).natAbs ≤ 9999; omega, by show -9999 ≤ toInt n; omega, by show toInt n ≤ 9999; omega⟩
    · rw [if_neg hc] at h; cases h

/-! ### meet -/
theorem meet_ok (h : Hp) (B off : Nat) (cs : List V) (ty : Nat) (g d : Nat) (hB : h.get B = some (.c cs ty none false false 0)) (ho : cs[off]? = some (.i .i64 ((g : Nat) : Int))) (hg : g ≤ 9999) (hd1 : 1 ≤ d) (hd2 : d ≤ 9999) :
    E (.call 96 [.p B off, .i .i64 ((d : Nat) : Int)] h) = some (.val (.b (decide (g / Nat.gcd d g * d ≤ 9999))) (h.set B (.c (cs.set off (.i .i64 ((g / Nat.gcd d g * d : Nat) : Int))) ty none false false 0))) := by
  rw [e96]
  have hol : off < cs.length := (List.getElem?_eq_some_iff.1 ho).1
  have a0 : h.at B off = some (.i .i64 ((g : Nat) : Int)) := by rw [at_of hB]; exact ho
  have hgc := gcd_ok g d
  have hgp : Nat.gcd d g ≠ 0 := by have := Nat.gcd_pos_of_pos_left g (show 0 < d by omega); omega
  have hq : g / Nat.gcd d g ≤ 9999 := Nat.le_trans (Nat.div_le_self _ _) hg
  have hm : g / Nat.gcd d g * d ≤ 9999 * 9999 := Nat.mul_le_mul hq hd2
  have hlt : g / Nat.gcd d g * d < 9223372036854775808 := by omega
  have a1 : (h.set B (.c (cs.set off (.i .i64 ((g / Nat.gcd d g * d : Nat) : Int))) ty none false false 0)).at B off = some (.i .i64 ((g / Nat.gcd d g * d : Nat) : Int)) := by
    rw [at_of (hset_same _ _ _)]; simp [hol]
  have hgc : ∀ h, E (.call 123 [.i .i64 ((g : Nat) : Int), .i .i64 ((d : Nat) : Int)] h) = some (.val (.i .i64 (Nat.gcd d g : Nat)) h) := fun h => gcd_ok g d h (by omega) (by omega)
  have e9 : (!decide (9999 < g / Nat.gcd d g * d)) = decide (g / Nat.gcd d g * d ≤ 9999) := by
    rw [Bool.eq_iff_iff]; simp
  generalize Nat.gcd d g = k at *
  simp (maxSteps := 10000000) (implicitDefEqProofs := false) (disch := first | omega | (simp only [add_nx, set_nx, kill_nx, bump_nx]; omega)) only [go_sem, get_set, ↓reduceIte, Nat.reduceEqDiff, Nat.reduceAdd, Nat.reduceSub, Nat.reduceMul, Nat.reduceMod, Nat.reduceDiv, Nat.reduceLT, Nat.reduceLeDiff, reduceCtorEq, decide_true, decide_false, Bool.false_eq_true, true_and, and_true, eq_self, Nat.zero_add, Nat.add_zero, Nat.mul_one, Nat.zero_mul, Nat.sub_zero, List.drop_zero, List.nil_append, List.append_nil, List.cons_append, Nat.zero_le, wrap64_nat, wrap64_int, wrap8u_lt, wrap32u_lt, wrap64u_lt, subI_nat, ixs_at, slcS_at, ia_sl, ia_ar, hadd_eq, hadd_ne, hset_eq, hset_ne, hkill_ne, at_add_same, at_add_ne, at_set_same, at_set_ne, at_kill_ne, mks_ok, bin_s_add, b96, a0, hgc, hgp, hB, putAt_set _ hol, a1, e9]
end Go.Proofs.YtgnpoaoekhplhaaGreatDoor.AE.Tst
