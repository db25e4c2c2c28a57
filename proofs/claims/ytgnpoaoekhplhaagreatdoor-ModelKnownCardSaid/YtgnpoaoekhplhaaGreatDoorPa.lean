/- A part of the proof that croupierlaw11.ModelKnown returns true (its last text says so). No condition of its own. -/
import Derived.Test.YtgnpoaoekhplhaaGreatDoorBase
import Derived.Test.YtgnpoaoekhplhaaGreatDoorEf
set_option linter.unusedVariables false
set_option linter.unusedSimpArgs false
set_option linter.unusedSectionVars false
set_option linter.unusedVariables false
set_option linter.unusedSimpArgs false
namespace Go.Proofs.YtgnpoaoekhplhaaGreatDoor.AE.Tst
open Go Go.Proofs.YtgnpoaoekhplhaaGreatDoor.AE Go.Proofs.YtgnpoaoekhplhaaGreatDoor.AE.Sim

/-! gcd -/
theorem gcd_loop (h : Hp) (tm : Tm) (a b : Nat) (ha : a < 9223372036854775808) (hb : b < 9223372036854775808) (h0 : tm.get 0 = some (.i .i64 (a : Int))) (h1 : tm.get 1 = some (.i .i64 (b : Int))) :
    Yc (E (.loop none l123_0 ⟨tm, [], h⟩)) fun e st => e = .exit 0 ∧ st.df = [] ∧ st.h = h ∧ AlB (wrs l123_0) tm st.tm ∧ st.tm.get 0 = some (.i .i64 (Nat.gcd b a : Nat)) := by
  refine (E_rule (α := Nat × Nat) (fun x tm h' => h' = h ∧ x.1 < 9223372036854775808 ∧ x.2 < 9223372036854775808 ∧ Nat.gcd x.2 x.1 = Nat.gcd b a ∧ tm.get 0 = some (.i .i64 (x.1 : Int)) ∧ tm.get 1 = some (.i .i64 (x.2 : Int))) (fun x => x.2)
    (fun e tm h' => e = .exit 0 ∧ h' = h ∧ tm.get 0 = some (.i .i64 (Nat.gcd b a : Nat))) (by rfl) ?_ (a, b) tm h ⟨rfl, ha, hb, rfl, h0, h1⟩ (AlB.refl _ _)).mono ?_
  · rintro ⟨a, b⟩ tm h ⟨rfl, ha, hb, hg, h0, h1⟩ al
    dsimp only at ha hb hg h0 h1
    by_cases hz : b = 0
    · subst hz
      simp (maxSteps := 10000000) (implicitDefEqProofs := false) only [go_sem, get_set, ↓reduceIte, Nat.reduceEqDiff, Nat.reduceAdd, Nat.reduceSub, Nat.reduceMul, Nat.reduceMod, Nat.reduceDiv, Nat.reduceLT, Nat.reduceLeDiff, reduceCtorEq, decide_true, decide_false, Bool.false_eq_true, true_and, and_true, eq_self, Nat.zero_add, Nat.add_zero, Nat.mul_one, Nat.zero_mul, Nat.sub_zero, List.drop_zero, List.nil_append, List.append_nil, List.cons_append, Nat.zero_le, l123_0, h0, h1, Nat.lt_irrefl]
      rw [← hg]; simp
    · have hp : 0 < b := by omega
      simp (maxSteps := 10000000) (implicitDefEqProofs := false) only [go_sem, get_set, ↓reduceIte, Nat.reduceEqDiff, Nat.reduceAdd, Nat.reduceSub, Nat.reduceMul, Nat.reduceMod, Nat.reduceDiv, Nat.reduceLT, Nat.reduceLeDiff, reduceCtorEq, decide_true, decide_false, Bool.false_eq_true, true_and, and_true, eq_self, Nat.zero_add, Nat.add_zero, Nat.mul_one, Nat.zero_mul, Nat.sub_zero, List.drop_zero, List.nil_append, List.append_nil, List.cons_append, Nat.zero_le, l123_0, h0, h1, hp, hz]
      have := Nat.mod_lt a hp
      exact ⟨(b, a % b), this, hb, by omega, by rw [← hg]; exact (Nat.gcd_rec b a).symm, rfl, rfl⟩
  · rintro e ⟨tm, df, h⟩ ⟨rfl, al, rfl, rfl, hg⟩
    exact ⟨rfl, rfl, rfl, al, hg⟩

theorem gcd_ok (a b : Nat) (h : Hp) (ha : a < 9223372036854775808) (hb : b < 9223372036854775808) : E (.call 123 [.i .i64 a, .i .i64 b] h) = some (.val (.i .i64 (Nat.gcd b a : Nat)) h) := by
  refine Yv.eq ?_
  rw [e123]
  simp (maxSteps := 10000000) (implicitDefEqProofs := false) only [go_sem, get_set, ↓reduceIte, Nat.reduceEqDiff, Nat.reduceAdd, Nat.reduceSub, Nat.reduceMul, Nat.reduceMod, Nat.reduceDiv, Nat.reduceLT, Nat.reduceLeDiff, reduceCtorEq, decide_true, decide_false, Bool.false_eq_true, true_and, and_true, eq_self, Nat.zero_add, Nat.add_zero, Nat.mul_one, Nat.zero_mul, Nat.sub_zero, List.drop_zero, List.nil_append, List.append_nil, List.cons_append, Nat.zero_le, b123]
  refine (gcd_loop h _ a b ha hb (by simp (maxSteps := 10000000) (implicitDefEqProofs := false) only [go_sem, get_set, ↓reduceIte, Nat.reduceEqDiff, Nat.reduceAdd, Nat.reduceSub, Nat.reduceMul, Nat.reduceMod, Nat.reduceDiv, Nat.reduceLT, Nat.reduceLeDiff, reduceCtorEq, decide_true, decide_false, Bool.false_eq_true, true_and, and_true, eq_self, Nat.zero_add, Nat.add_zero, Nat.mul_one, Nat.zero_mul, Nat.sub_zero, List.drop_zero, List.nil_append, List.append_nil, List.cons_append, Nat.zero_le]) (by simp (maxSteps := 10000000) (implicitDefEqProofs := false) only [go_sem, get_set, ↓reduceIte, Nat.reduceEqDiff, Nat.reduceAdd, Nat.reduceSub, Nat.reduceMul, Nat.reduceMod, Nat.reduceDiv, Nat.reduceLT, Nat.reduceLeDiff, reduceCtorEq, decide_true, decide_false, Bool.false_eq_true, true_and, and_true, eq_self, Nat.zero_add, Nat.add_zero, Nat.mul_one, Nat.zero_mul, Nat.sub_zero, List.drop_zero, List.nil_append, List.append_nil, List.cons_append, Nat.zero_le])).mono ?_
  rintro e ⟨tm, df, h⟩ ⟨rfl, rfl, rfl, al, hg⟩
  simp (maxSteps := 10000000) (implicitDefEqProofs := false) only [go_sem, get_set, ↓reduceIte, Nat.reduceEqDiff, Nat.reduceAdd, Nat.reduceSub, Nat.reduceMul, Nat.reduceMod, Nat.reduceDiv, Nat.reduceLT, Nat.reduceLeDiff, reduceCtorEq, decide_true, decide_false, Bool.false_eq_true, true_and, and_true, eq_self, Nat.zero_add, Nat.add_zero, Nat.mul_one, Nat.zero_mul, Nat.sub_zero, List.drop_zero, List.nil_append, List.append_nil, List.cons_append, Nat.zero_le, hg]
end Go.Proofs.YtgnpoaoekhplhaaGreatDoor.AE.Tst
set_option linter.unusedVariables false
set_option linter.unusedSimpArgs false
namespace Go.Proofs.YtgnpoaoekhplhaaGreatDoor.AE.Tst
open Go Go.Proofs.YtgnpoaoekhplhaaGreatDoor.AE Go.Proofs.YtgnpoaoekhplhaaGreatDoor.AE.Sim

/-! ### Package strings -/
theorem hasPrefix_ok (s p : List UInt8) (h : Hp) : E (.call 205 [.s s, .s p] h) = some (.val (.b (p.isPrefixOf s)) h) := by
  rw [e205]
  by_cases hl : p.length ≤ s.length
  · have hl' : ¬ s.length < p.length := by omega
    have e : decide (List.take p.length s = p) = p.isPrefixOf s := by
      rw [Bool.eq_iff_iff, List.isPrefixOf_iff_prefix, List.prefix_iff_eq_take]
      simp [eq_comm]
    simp (maxSteps := 10000000) (implicitDefEqProofs := false) (disch := first | omega | (simp only [add_nx, set_nx, kill_nx, bump_nx]; omega)) only [go_sem, get_set, ↓reduceIte, Nat.reduceEqDiff, Nat.reduceAdd, Nat.reduceSub, Nat.reduceMul, Nat.reduceMod, Nat.reduceDiv, Nat.reduceLT, Nat.reduceLeDiff, reduceCtorEq, decide_true, decide_false, Bool.false_eq_true, true_and, and_true, eq_self, Nat.zero_add, Nat.add_zero, Nat.mul_one, Nat.zero_mul, Nat.sub_zero, List.drop_zero, List.nil_append, List.append_nil, List.cons_append, Nat.zero_le, wrap64_nat, wrap64_int, wrap8u_lt, wrap32u_lt, wrap64u_lt, subI_nat, ixs_at, slcS_at, ia_sl, ia_ar, hadd_eq, hadd_ne, hset_eq, hset_ne, hkill_ne, at_add_same, at_add_ne, at_set_same, at_set_ne, at_kill_ne, mks_ok, bin_s_add, b205, hl, hl', e]
  · have hl' : s.length < p.length := by omega
    have e : p.isPrefixOf s = false := by
      rw [Bool.eq_false_iff]
      intro hh
      rw [List.isPrefixOf_iff_prefix] at hh
      have := hh.length_le
      omega
    simp (maxSteps := 10000000) (implicitDefEqProofs := false) (disch := first | omega | (simp only [add_nx, set_nx, kill_nx, bump_nx]; omega)) only [go_sem, get_set, ↓reduceIte, Nat.reduceEqDiff, Nat.reduceAdd, Nat.reduceSub, Nat.reduceMul, Nat.reduceMod, Nat.reduceDiv, Nat.reduceLT, Nat.reduceLeDiff, reduceCtorEq, decide_true, decide_false, Bool.false_eq_true, true_and, and_true, eq_self, Nat.zero_add, Nat.add_zero, Nat.mul_one, Nat.zero_mul, Nat.sub_zero, List.drop_zero, List.nil_append, List.append_nil, List.cons_append, Nat.zero_le, wrap64_nat, wrap64_int, wrap8u_lt, wrap32u_lt, wrap64u_lt, subI_nat, ixs_at, slcS_at, ia_sl, ia_ar, hadd_eq, hadd_ne, hset_eq, hset_ne, hkill_ne, at_add_same, at_add_ne, at_set_same, at_set_ne, at_kill_ne, mks_ok, bin_s_add, b205, hl, hl', e]

def trimP (p s : List UInt8) : List UInt8 := if p.isPrefixOf s then s.drop p.length else s
theorem trimPrefix_ok (s p : List UInt8) (h : Hp) : E (.call 166 [.s s, .s p] h) = some (.val (.s (trimP p s)) h) := by
  rw [e166]
  simp (maxSteps := 10000000) (implicitDefEqProofs := false) only [go_sem, get_set, ↓reduceIte, Nat.reduceEqDiff, Nat.reduceAdd, Nat.reduceSub, Nat.reduceMul, Nat.reduceMod, Nat.reduceDiv, Nat.reduceLT, Nat.reduceLeDiff, reduceCtorEq, decide_true, decide_false, Bool.false_eq_true, true_and, and_true, eq_self, Nat.zero_add, Nat.add_zero, Nat.mul_one, Nat.zero_mul, Nat.sub_zero, List.drop_zero, List.nil_append, List.append_nil, List.cons_append, Nat.zero_le, b166]
  rw [e185]
  by_cases hp : p.isPrefixOf s = true
  · have hl : p.length ≤ s.length := by rw [List.isPrefixOf_iff_prefix] at hp; exact hp.length_le
    have e : List.take (s.length - p.length) (List.drop p.length s) = trimP p s := by
      unfold trimP; rw [if_pos hp, List.take_of_length_le (by simp)]
    simp (maxSteps := 10000000) (implicitDefEqProofs := false) (disch := first | omega | (simp only [add_nx, set_nx, kill_nx, bump_nx]; omega)) only [go_sem, get_set, ↓reduceIte, Nat.reduceEqDiff, Nat.reduceAdd, Nat.reduceSub, Nat.reduceMul, Nat.reduceMod, Nat.reduceDiv, Nat.reduceLT, Nat.reduceLeDiff, reduceCtorEq, decide_true, decide_false, Bool.false_eq_true, true_and, and_true, eq_self, Nat.zero_add, Nat.add_zero, Nat.mul_one, Nat.zero_mul, Nat.sub_zero, List.drop_zero, List.nil_append, List.append_nil, List.cons_append, Nat.zero_le, wrap64_nat, wrap64_int, wrap8u_lt, wrap32u_lt, wrap64u_lt, subI_nat, ixs_at, slcS_at, ia_sl, ia_ar, hadd_eq, hadd_ne, hset_eq, hset_ne, hkill_ne, at_add_same, at_add_ne, at_set_same, at_set_ne, at_kill_ne, mks_ok, bin_s_add, b185, hasPrefix_ok, hp, e]
  · have hp' : p.isPrefixOf s = false := Bool.eq_false_iff.2 hp
    have e : trimP p s = s := by unfold trimP; rw [hp']; rfl
    simp (maxSteps := 10000000) (implicitDefEqProofs := false) (disch := first | omega | (simp only [add_nx, set_nx, kill_nx, bump_nx]; omega)) only [go_sem, get_set, ↓reduceIte, Nat.reduceEqDiff, Nat.reduceAdd, Nat.reduceSub, Nat.reduceMul, Nat.reduceMod, Nat.reduceDiv, Nat.reduceLT, Nat.reduceLeDiff, reduceCtorEq, decide_true, decide_false, Bool.false_eq_true, true_and, and_true, eq_self, Nat.zero_add, Nat.add_zero, Nat.mul_one, Nat.zero_mul, Nat.sub_zero, List.drop_zero, List.nil_append, List.append_nil, List.cons_append, Nat.zero_le, wrap64_nat, wrap64_int, wrap8u_lt, wrap32u_lt, wrap64u_lt, subI_nat, ixs_at, slcS_at, ia_sl, ia_ar, hadd_eq, hadd_ne, hset_eq, hset_ne, hkill_ne, at_add_same, at_add_ne, at_set_same, at_set_ne, at_kill_ne, mks_ok, bin_s_add, b185, hasPrefix_ok, hp', e]

/-- Cuts at the first byte c. -/
def cutAt (c : UInt8) : List UInt8 → Option (List UInt8 × List UInt8)
  | [] => none
  | x :: l => if x = c then some ([], l) else match cutAt c l with
    | some (a, b) => some (x :: a, b)
    | none => none
theorem cutAt_some {c : UInt8} : ∀ {s a b : List UInt8}, cutAt c s = some (a, b) → s = a ++ c :: b ∧ c ∉ a
  | [], _, _, e => by cases e
  | x :: l, a, b, e => by
    simp only [cutAt] at e
    split at e
    · next hx => cases e; subst hx; simp
    · next hx =>
      split at e
      · next a' b' e' =>
        cases e
        obtain ⟨h1, h2⟩ := cutAt_some e'
        refine ⟨by rw [h1]; rfl, ?_⟩
        simp only [List.mem_cons, not_or]
        exact ⟨fun h => hx h.symm, h2⟩
      · cases e
theorem cutAt_none {c : UInt8} : ∀ {s : List UInt8}, cutAt c s = none → c ∉ s
  | [], _ => by simp
  | x :: l, e => by
    simp only [cutAt] at e
    split at e
    · cases e
    · next hx =>
      split at e
      · cases e
      · next e' => simp only [List.mem_cons, not_or]; exact ⟨fun h => hx h.symm, cutAt_none e'⟩
theorem byteIx_cut (c : UInt8) : ∀ (s : List UInt8) (k : Nat), byteIx c.toNat s k = match cutAt c s with
    | some (a, _) => ((a.length + k : Nat) : Int)
    | none => -1
  | [], k => rfl
  | x :: l, k => by
    simp only [byteIx, cutAt]
    by_cases hx : x = c
    · subst hx; simp
    · have h1 : Nat.beq x.toNat c.toNat = false := by
        cases hb : Nat.beq x.toNat c.toNat
        · rfl
        · exact absurd (UInt8.toNat_inj.1 (Nat.eq_of_beq_eq_true hb)) hx
      rw [h1, cond_false, byteIx_cut c l (k + 1), if_neg hx]
      split
      · show ((_ : Nat) : Int) = ((_ : Nat) : Int)
        congr 1; simp; omega
      · rfl

theorem indexByte_ok (s : List UInt8) (c : Nat) (h : Hp) : E (.call 201 [.s s, .i .u8 (c : Nat)] h) = some (.val (.i .i64 (byteIx (c % 256) s 0)) h) := by
  rw [e201]
  have : ∀ (a : Nat), E (.call 212 [.s s, .i .u8 ((a : Nat) : Int)] h) = some (.val (.i .i64 (byteIx (a % 256) s 0)) h) := fun a => e212 s a h
  simp (maxSteps := 10000000) (implicitDefEqProofs := false) only [go_sem, get_set, ↓reduceIte, Nat.reduceEqDiff, Nat.reduceAdd, Nat.reduceSub, Nat.reduceMul, Nat.reduceMod, Nat.reduceDiv, Nat.reduceLT, Nat.reduceLeDiff, reduceCtorEq, decide_true, decide_false, Bool.false_eq_true, true_and, and_true, eq_self, Nat.zero_add, Nat.add_zero, Nat.mul_one, Nat.zero_mul, Nat.sub_zero, List.drop_zero, List.nil_append, List.append_nil, List.cons_append, Nat.zero_le, b201, this]
theorem index1_ok (s : List UInt8) (c : UInt8) (h : Hp) : E (.call 184 [.s s, .s [c]] h) = some (.val (.i .i64 (byteIx c.toNat s 0)) h) := by
  rw [e184]
  have hc : c.toNat % 256 = c.toNat := Nat.mod_eq_of_lt c.toNat_lt
  have hi : ixsV (some (.s [c])) (some (.i .i64 ((0 : Nat) : Int))) = some (.i .u8 ((c.toNat : Nat) : Int)) := rfl
  have h1 : [c].length = 1 := rfl
  by_cases hs : [c] = s
  · subst hs
    have e : byteIx c.toNat [c] 0 = ((0 : Nat) : Int) := by simp [byteIx]
    simp (maxSteps := 10000000) (implicitDefEqProofs := false) (disch := first | omega | (simp only [add_nx, set_nx, kill_nx, bump_nx]; omega)) only [go_sem, get_set, ↓reduceIte, Nat.reduceEqDiff, Nat.reduceAdd, Nat.reduceSub, Nat.reduceMul, Nat.reduceMod, Nat.reduceDiv, Nat.reduceLT, Nat.reduceLeDiff, reduceCtorEq, decide_true, decide_false, Bool.false_eq_true, true_and, and_true, eq_self, Nat.zero_add, Nat.add_zero, Nat.mul_one, Nat.zero_mul, Nat.sub_zero, List.drop_zero, List.nil_append, List.append_nil, List.cons_append, Nat.zero_le, wrap64_nat, wrap64_int, wrap8u_lt, wrap32u_lt, wrap64u_lt, subI_nat, ixs_at, slcS_at, ia_sl, ia_ar, hadd_eq, hadd_ne, hset_eq, hset_ne, hkill_ne, at_add_same, at_add_ne, at_set_same, at_set_ne, at_kill_ne, mks_ok, bin_s_add, b184, e, h1]
  · simp (maxSteps := 10000000) (implicitDefEqProofs := false) (disch := first | omega | (simp only [add_nx, set_nx, kill_nx, bump_nx]; omega)) only [go_sem, get_set, ↓reduceIte, Nat.reduceEqDiff, Nat.reduceAdd, Nat.reduceSub, Nat.reduceMul, Nat.reduceMod, Nat.reduceDiv, Nat.reduceLT, Nat.reduceLeDiff, reduceCtorEq, decide_true, decide_false, Bool.false_eq_true, true_and, and_true, eq_self, Nat.zero_add, Nat.add_zero, Nat.mul_one, Nat.zero_mul, Nat.sub_zero, List.drop_zero, List.nil_append, List.append_nil, List.cons_append, Nat.zero_le, wrap64_nat, wrap64_int, wrap8u_lt, wrap32u_lt, wrap64u_lt, subI_nat, ixs_at, slcS_at, ia_sl, ia_ar, hadd_eq, hadd_ne, hset_eq, hset_ne, hkill_ne, at_add_same, at_add_ne, at_set_same, at_set_ne, at_kill_ne, mks_ok, bin_s_add, b184, hs, hi, indexByte_ok, hc, h1]

/-- What strings.Cut at a slash returns. -/
def cutV (s : List UInt8) : V := match cutAt 47 s with
  | some (a, b) => .tu [.s a, .s b, .b true]
  | none => .tu [.s s, .s [], .b false]
theorem cut_ok (s : List UInt8) (h : Hp) (hl : s.length < 9223372036854775808) : E (.call 152 [.s s, .s [47]] h) = some (.val (cutV s) h) := by
  rw [e152]
  simp (maxSteps := 10000000) (implicitDefEqProofs := false) only [go_sem, get_set, ↓reduceIte, Nat.reduceEqDiff, Nat.reduceAdd, Nat.reduceSub, Nat.reduceMul, Nat.reduceMod, Nat.reduceDiv, Nat.reduceLT, Nat.reduceLeDiff, reduceCtorEq, decide_true, decide_false, Bool.false_eq_true, true_and, and_true, eq_self, Nat.zero_add, Nat.add_zero, Nat.mul_one, Nat.zero_mul, Nat.sub_zero, List.drop_zero, List.nil_append, List.append_nil, List.cons_append, Nat.zero_le, b152]
  rw [e165]
  have hx : byteIx (UInt8.toNat 47) s 0 = _ := byteIx_cut 47 s 0
  cases hc : cutAt 47 s with
  | none =>
    rw [hc] at hx
    have hx : byteIx (UInt8.toNat 47) s 0 = -1 := hx
    have e : cutV s = .tu [.s s, .s [], .b false] := by unfold cutV; rw [hc]
    have hn : ltI (-1) ((0 : Nat) : Int) = true := by rfl
    simp (maxSteps := 10000000) (implicitDefEqProofs := false) (disch := first | omega | (simp only [add_nx, set_nx, kill_nx, bump_nx]; omega)) only [go_sem, get_set, ↓reduceIte, Nat.reduceEqDiff, Nat.reduceAdd, Nat.reduceSub, Nat.reduceMul, Nat.reduceMod, Nat.reduceDiv, Nat.reduceLT, Nat.reduceLeDiff, reduceCtorEq, decide_true, decide_false, Bool.false_eq_true, true_and, and_true, eq_self, Nat.zero_add, Nat.add_zero, Nat.mul_one, Nat.zero_mul, Nat.sub_zero, List.drop_zero, List.nil_append, List.append_nil, List.cons_append, Nat.zero_le, wrap64_nat, wrap64_int, wrap8u_lt, wrap32u_lt, wrap64u_lt, subI_nat, ixs_at, slcS_at, ia_sl, ia_ar, hadd_eq, hadd_ne, hset_eq, hset_ne, hkill_ne, at_add_same, at_add_ne, at_set_same, at_set_ne, at_kill_ne, mks_ok, bin_s_add, b165, index1_ok, hx, hn, e]
  | some p =>
    obtain ⟨a, b⟩ := p
    rw [hc] at hx
    have hx : byteIx (UInt8.toNat 47) s 0 = ((a.length : Nat) : Int) := hx
    have e : cutV s = .tu [.s a, .s b, .b true] := by unfold cutV; rw [hc]
    obtain ⟨hs, _⟩ := cutAt_some hc
    have hlen : s.length = a.length + (b.length + 1) := by rw [hs]; simp
    have h1 : ([47] : List UInt8).length = 1 := rfl
    have h2 : List.take a.length s = a := by rw [hs]; simp
    have h3 : List.take (s.length - (a.length + 1)) (List.drop (a.length + 1) s) = b := by
      rw [List.take_of_length_le (by simp), hs]
      simp [List.drop_append]
    have h4 : ¬ (a.length < 0) := by omega
    simp (maxSteps := 10000000) (implicitDefEqProofs := false) (disch := first | omega | (simp only [add_nx, set_nx, kill_nx, bump_nx]; omega)) only [go_sem, get_set, ↓reduceIte, Nat.reduceEqDiff, Nat.reduceAdd, Nat.reduceSub, Nat.reduceMul, Nat.reduceMod, Nat.reduceDiv, Nat.reduceLT, Nat.reduceLeDiff, reduceCtorEq, decide_true, decide_false, Bool.false_eq_true, true_and, and_true, eq_self, Nat.zero_add, Nat.add_zero, Nat.mul_one, Nat.zero_mul, Nat.sub_zero, List.drop_zero, List.nil_append, List.append_nil, List.cons_append, Nat.zero_le, wrap64_nat, wrap64_int, wrap8u_lt, wrap32u_lt, wrap64u_lt, subI_nat, ixs_at, slcS_at, ia_sl, ia_ar, hadd_eq, hadd_ne, hset_eq, hset_ne, hkill_ne, at_add_same, at_add_ne, at_set_same, at_set_ne, at_kill_ne, mks_ok, bin_s_add, b165, index1_ok, hx, h1, h2, h3, h4, e]
end Go.Proofs.YtgnpoaoekhplhaaGreatDoor.AE.Tst
set_option linter.unusedVariables false
set_option linter.unusedSimpArgs false
namespace Go.Proofs.YtgnpoaoekhplhaaGreatDoor.AE.Tst
open Go Go.Proofs.YtgnpoaoekhplhaaGreatDoor.AE Go.Proofs.YtgnpoaoekhplhaaGreatDoor.AE.Sim

/-! ### whole.Check -/
def isDig (c : UInt8) : Bool := decide (48 ≤ c.toNat) && decide (c.toNat ≤ 57)
def bytesV (l : List UInt8) : List V := l.map fun c => .i .u8 ((c.toNat : Nat) : Int)
theorem bytesV_num (l : List UInt8) : allNum (bytesV l) = true := by
  rw [allNum_iff]; intro v hv; simp only [bytesV, List.mem_map] at hv; obtain ⟨c, _, rfl⟩ := hv; rfl
theorem s2b_ok {ty : Nat} {l : List UInt8} {h : Hp} (hl : l.length ≤ 1099511627776) : s2bV ty (some (.s l)) h = some (.sl h.nx 0 l.length none, h.add (.c (bytesV l) ty (some 1) false true 0)) := by
  show grow h ty 1 1 l.length (bytesV l) true 0 = _
  unfold grow
  have h1 : Nat.ble (l.length * 1) bigB = true := by simp [bigB]; exact hl
  rw [h1, bytesV_num]; rfl
theorem bytesV_get (l : List UInt8) {i : Nat} (hi : i < l.length) : (bytesV l)[i]? = some (.i .u8 ((l[i].toNat : Nat) : Int)) := by
  simp [bytesV, hi]

def whCheck (s : List UInt8) : Nat :=
  if s = [48] then 0 else if trimP [45] s = [] ∨ (trimP [45] s).head? = some 48 then 5
  else if (trimP [45] s).all isDig then (if 2000 < (trimP [45] s).length then 6 else 0) else 5

theorem all_take_succ (l : List UInt8) (i : Nat) (hi : i < l.length) : (l.take (i + 1)).all isDig = ((l.take i).all isDig && isDig l[i]) := by
  rw [List.take_succ_eq_append_getElem hi, List.all_append]; simp only [List.all_cons, List.all_nil, Bool.and_true]

theorem check_loop (h : Hp) (tm : Tm) (id : Nat) (l : List UInt8) (hb : ∀ i (hi : i < l.length), h.at id i = some (.i .u8 ((l[i].toNat : Nat) : Int)))
    (hl : l.length ≤ 1099511627776) (h10 : tm.get 10 = some (.sl id 0 l.length none)) (h11 : tm.get 11 = some (.i .i64 ((l.length : Nat) : Int))) (h12 : tm.get 12 = some (.i .i64 ((0 : Nat) : Int)))
    (h4 : tm.get 4 = some (.i .i64 ((0 : Nat) : Int))) :
    Yc (E (.loop none l153_0 ⟨tm, [], h⟩)) fun e st => st.df = [] ∧ AlB (wrs l153_0) tm st.tm ∧ st.h = h ∧
      ((e = .exit 1 ∧ l.all isDig = true ∧ st.tm.get 4 = some (.i .i64 ((0 : Nat) : Int))) ∨ (e = .exit 0 ∧ l.all isDig = false ∧ st.tm.get 4 = some (.i .i64 ((5 : Nat) : Int)))) := by
  refine E_rule (α := Nat) (fun i tm h' => h' = h ∧ i ≤ l.length ∧ (l.take i).all isDig = true ∧ tm.get 12 = some (.i .i64 (i : Int)) ∧ tm.get 4 = some (.i .i64 ((0 : Nat) : Int))) (fun i => l.length - i)
    (fun e tm h' => h' = h ∧
      ((e = .exit 1 ∧ l.all isDig = true ∧ tm.get 4 = some (.i .i64 ((0 : Nat) : Int))) ∨ (e = .exit 0 ∧ l.all isDig = false ∧ tm.get 4 = some (.i .i64 ((5 : Nat) : Int))))) (by rfl) ?_ 0 tm h ⟨rfl, by omega, by simp, h12, h4⟩ (AlB.refl _ _)
  rintro i tm' h' ⟨rfl, hi, hall, h12', h4'⟩ al
  have h10' := (al 10 (by rfl)).trans h10
  have h11' := (al 11 (by rfl)).trans h11
  by_cases hlt : i < l.length
  · have hat := hb i hlt
    by_cases hd : isDig l[i] = true
    · have hd' := hd
      simp only [isDig, Bool.and_eq_true, decide_eq_true_eq] at hd'
      have a1 : ¬ l[i].toNat < 48 := by omega
      have a2 : ¬ 57 < l[i].toNat := by omega
      simp (maxSteps := 10000000) (implicitDefEqProofs := false) (disch := first | omega | (simp only [add_nx, set_nx, kill_nx, bump_nx]; omega)) only [go_sem, get_set, ↓reduceIte, Nat.reduceEqDiff, Nat.reduceAdd, Nat.reduceSub, Nat.reduceMul, Nat.reduceMod, Nat.reduceDiv, Nat.reduceLT, Nat.reduceLeDiff, reduceCtorEq, decide_true, decide_false, Bool.false_eq_true, true_and, and_true, eq_self, Nat.zero_add, Nat.add_zero, Nat.mul_one, Nat.zero_mul, Nat.sub_zero, List.drop_zero, List.nil_append, List.append_nil, List.cons_append, Nat.zero_le, wrap64_nat, wrap64_int, wrap8u_lt, wrap32u_lt, wrap64u_lt, subI_nat, ixs_at, slcS_at, ia_sl, ia_ar, hadd_eq, hadd_ne, hset_eq, hset_ne, hkill_ne, at_add_same, at_add_ne, at_set_same, at_set_ne, at_kill_ne, mks_ok, bin_s_add, l153_0, h10', h11', h12', h4', hlt, hat, a1, a2]
      exact ⟨i + 1, by omega, by omega, by rw [all_take_succ l i hlt, hall, hd]; rfl, rfl⟩
    · have hd2 : isDig l[i] = false := Bool.eq_false_iff.2 hd
      have hall2 : l.all isDig = false := by
        rw [Bool.eq_false_iff]; intro hh
        rw [List.all_eq_true] at hh
        exact hd (hh _ (List.getElem_mem hlt))
      by_cases a1 : l[i].toNat < 48
      · simp (maxSteps := 10000000) (implicitDefEqProofs := false) (disch := first | omega | (simp only [add_nx, set_nx, kill_nx, bump_nx]; omega)) only [go_sem, get_set, ↓reduceIte, Nat.reduceEqDiff, Nat.reduceAdd, Nat.reduceSub, Nat.reduceMul, Nat.reduceMod, Nat.reduceDiv, Nat.reduceLT, Nat.reduceLeDiff, reduceCtorEq, decide_true, decide_false, Bool.false_eq_true, true_and, and_true, eq_self, Nat.zero_add, Nat.add_zero, Nat.mul_one, Nat.zero_mul, Nat.sub_zero, List.drop_zero, List.nil_append, List.append_nil, List.cons_append, Nat.zero_le, wrap64_nat, wrap64_int, wrap8u_lt, wrap32u_lt, wrap64u_lt, subI_nat, ixs_at, slcS_at, ia_sl, ia_ar, hadd_eq, hadd_ne, hset_eq, hset_ne, hkill_ne, at_add_same, at_add_ne, at_set_same, at_set_ne, at_kill_ne, mks_ok, bin_s_add, l153_0, h10', h11', h12', h4', hlt, hat, a1, hall2]
        exact .inr trivial
      · have a2 : 57 < l[i].toNat := by
          simp only [isDig, Bool.and_eq_true, decide_eq_true_eq] at hd; omega
        simp (maxSteps := 10000000) (implicitDefEqProofs := false) (disch := first | omega | (simp only [add_nx, set_nx, kill_nx, bump_nx]; omega)) only [go_sem, get_set, ↓reduceIte, Nat.reduceEqDiff, Nat.reduceAdd, Nat.reduceSub, Nat.reduceMul, Nat.reduceMod, Nat.reduceDiv, Nat.reduceLT, Nat.reduceLeDiff, reduceCtorEq, decide_true, decide_false, Bool.false_eq_true, true_and, and_true, eq_self, Nat.zero_add, Nat.add_zero, Nat.mul_one, Nat.zero_mul, Nat.sub_zero, List.drop_zero, List.nil_append, List.append_nil, List.cons_append, Nat.zero_le, wrap64_nat, wrap64_int, wrap8u_lt, wrap32u_lt, wrap64u_lt, subI_nat, ixs_at, slcS_at, ia_sl, ia_ar, hadd_eq, hadd_ne, hset_eq, hset_ne, hkill_ne, at_add_same, at_add_ne, at_set_same, at_set_ne, at_kill_ne, mks_ok, bin_s_add, l153_0, h10', h11', h12', h4', hlt, hat, a1, a2, hall2]
        exact .inr trivial
  · have : i = l.length := by omega
    subst this
    rw [List.take_of_length_le (by omega)] at hall
    simp (maxSteps := 10000000) (implicitDefEqProofs := false) (disch := first | omega | (simp only [add_nx, set_nx, kill_nx, bump_nx]; omega)) only [go_sem, get_set, ↓reduceIte, Nat.reduceEqDiff, Nat.reduceAdd, Nat.reduceSub, Nat.reduceMul, Nat.reduceMod, Nat.reduceDiv, Nat.reduceLT, Nat.reduceLeDiff, reduceCtorEq, decide_true, decide_false, Bool.false_eq_true, true_and, and_true, eq_self, Nat.zero_add, Nat.add_zero, Nat.mul_one, Nat.zero_mul, Nat.sub_zero, List.drop_zero, List.nil_append, List.append_nil, List.cons_append, Nat.zero_le, wrap64_nat, wrap64_int, wrap8u_lt, wrap32u_lt, wrap64u_lt, subI_nat, ixs_at, slcS_at, ia_sl, ia_ar, hadd_eq, hadd_ne, hset_eq, hset_ne, hkill_ne, at_add_same, at_add_ne, at_set_same, at_set_ne, at_kill_ne, mks_ok, bin_s_add, l153_0, h10', h11', h12', h4', hlt, hall]
    exact .inl trivial

theorem whole_check (s : List UInt8) (h : Hp) (ok : h.Ok) (hl : s.length ≤ 1099511627776) : Yv (E (.call 153 [.s s] h)) fun v h' => v = .i .i64 ((whCheck s : Nat) : Int) ∧ Gr h h' := by
  rw [e153]
  have htl : (trimP [45] s).length ≤ s.length := by unfold trimP; split <;> simp
  by_cases h0 : s = [48]
  · subst h0
    simp (maxSteps := 10000000) (implicitDefEqProofs := false) (disch := first | omega | (simp only [add_nx, set_nx, kill_nx, bump_nx]; omega)) only [go_sem, get_set, ↓reduceIte, Nat.reduceEqDiff, Nat.reduceAdd, Nat.reduceSub, Nat.reduceMul, Nat.reduceMod, Nat.reduceDiv, Nat.reduceLT, Nat.reduceLeDiff, reduceCtorEq, decide_true, decide_false, Bool.false_eq_true, true_and, and_true, eq_self, Nat.zero_add, Nat.add_zero, Nat.mul_one, Nat.zero_mul, Nat.sub_zero, List.drop_zero, List.nil_append, List.append_nil, List.cons_append, Nat.zero_le, wrap64_nat, wrap64_int, wrap8u_lt, wrap32u_lt, wrap64u_lt, subI_nat, ixs_at, slcS_at, ia_sl, ia_ar, hadd_eq, hadd_ne, hset_eq, hset_ne, hkill_ne, at_add_same, at_add_ne, at_set_same, at_set_ne, at_kill_ne, mks_ok, bin_s_add, b153, trimPrefix_ok]
    exact ⟨rfl, Gr.refl ok⟩
  · by_cases h1 : trimP [45] s = []
    · have e : whCheck s = 5 := by unfold whCheck; rw [if_neg h0, if_pos (.inl h1)]
      simp (maxSteps := 10000000) (implicitDefEqProofs := false) (disch := first | omega | (simp only [add_nx, set_nx, kill_nx, bump_nx]; omega)) only [go_sem, get_set, ↓reduceIte, Nat.reduceEqDiff, Nat.reduceAdd, Nat.reduceSub, Nat.reduceMul, Nat.reduceMod, Nat.reduceDiv, Nat.reduceLT, Nat.reduceLeDiff, reduceCtorEq, decide_true, decide_false, Bool.false_eq_true, true_and, and_true, eq_self, Nat.zero_add, Nat.add_zero, Nat.mul_one, Nat.zero_mul, Nat.sub_zero, List.drop_zero, List.nil_append, List.append_nil, List.cons_append, Nat.zero_le, wrap64_nat, wrap64_int, wrap8u_lt, wrap32u_lt, wrap64u_lt, subI_nat, ixs_at, slcS_at, ia_sl, ia_ar, hadd_eq, hadd_ne, hset_eq, hset_ne, hkill_ne, at_add_same, at_add_ne, at_set_same, at_set_ne, at_kill_ne, mks_ok, bin_s_add, b153, trimPrefix_ok, h0, h1, e]
      exact Gr.refl ok
    · have hpos : 0 < (trimP [45] s).length := List.length_pos_iff.2 h1
      by_cases h2 : (trimP [45] s)[0].toNat = 48
      · have hh : (trimP [45] s).head? = some 48 := by
          rw [List.head?_eq_getElem?, List.getElem?_eq_getElem hpos]
          congr 1
          exact UInt8.toNat_inj.1 h2
        have e : whCheck s = 5 := by unfold whCheck; rw [if_neg h0, if_pos (.inr hh)]
        simp (maxSteps := 10000000) (implicitDefEqProofs := false) (disch := first | omega | (simp only [add_nx, set_nx, kill_nx, bump_nx]; omega)) only [go_sem, get_set, ↓reduceIte, Nat.reduceEqDiff, Nat.reduceAdd, Nat.reduceSub, Nat.reduceMul, Nat.reduceMod, Nat.reduceDiv, Nat.reduceLT, Nat.reduceLeDiff, reduceCtorEq, decide_true, decide_false, Bool.false_eq_true, true_and, and_true, eq_self, Nat.zero_add, Nat.add_zero, Nat.mul_one, Nat.zero_mul, Nat.sub_zero, List.drop_zero, List.nil_append, List.append_nil, List.cons_append, Nat.zero_le, wrap64_nat, wrap64_int, wrap8u_lt, wrap32u_lt, wrap64u_lt, subI_nat, ixs_at, slcS_at, ia_sl, ia_ar, hadd_eq, hadd_ne, hset_eq, hset_ne, hkill_ne, at_add_same, at_add_ne, at_set_same, at_set_ne, at_kill_ne, mks_ok, bin_s_add, b153, trimPrefix_ok, h0, h1, h2, e]
        exact Gr.refl ok
      · have hh : (trimP [45] s).head? ≠ some 48 := by
          rw [List.head?_eq_getElem?, List.getElem?_eq_getElem hpos]
          intro e
          apply h2
          have := Option.some.inj e
          rw [this]; rfl
        have e : whCheck s = if (trimP [45] s).all isDig then (if 2000 < (trimP [45] s).length then 6 else 0) else 5 := by
          unfold whCheck; rw [if_neg h0, if_neg (fun x => x.elim h1 hh)]
        simp (maxSteps := 10000000) (implicitDefEqProofs := false) (disch := first | omega | (simp only [add_nx, set_nx, kill_nx, bump_nx]; omega)) only [go_sem, get_set, ↓reduceIte, Nat.reduceEqDiff, Nat.reduceAdd, Nat.reduceSub, Nat.reduceMul, Nat.reduceMod, Nat.reduceDiv, Nat.reduceLT, Nat.reduceLeDiff, reduceCtorEq, decide_true, decide_false, Bool.false_eq_true, true_and, and_true, eq_self, Nat.zero_add, Nat.add_zero, Nat.mul_one, Nat.zero_mul, Nat.sub_zero, List.drop_zero, List.nil_append, List.append_nil, List.cons_append, Nat.zero_le, wrap64_nat, wrap64_int, wrap8u_lt, wrap32u_lt, wrap64u_lt, subI_nat, ixs_at, slcS_at, ia_sl, ia_ar, hadd_eq, hadd_ne, hset_eq, hset_ne, hkill_ne, at_add_same, at_add_ne, at_set_same, at_set_ne, at_kill_ne, mks_ok, bin_s_add, b153, trimPrefix_ok, h0, h1, h2, s2b_ok]
        refine (check_loop _ _ h.nx (trimP [45] s) (fun i hi => ?_) (by omega) (by simp (maxSteps := 10000000) (implicitDefEqProofs := false) only [go_sem, get_set, ↓reduceIte, Nat.reduceEqDiff, Nat.reduceAdd, Nat.reduceSub, Nat.reduceMul, Nat.reduceMod, Nat.reduceDiv, Nat.reduceLT, Nat.reduceLeDiff, reduceCtorEq, decide_true, decide_false, Bool.false_eq_true, true_and, and_true, eq_self, Nat.zero_add, Nat.add_zero, Nat.mul_one, Nat.zero_mul, Nat.sub_zero, List.drop_zero, List.nil_append, List.append_nil, List.cons_append, Nat.zero_le]) (by simp (maxSteps := 10000000) (implicitDefEqProofs := false) only [go_sem, get_set, ↓reduceIte, Nat.reduceEqDiff, Nat.reduceAdd, Nat.reduceSub, Nat.reduceMul, Nat.reduceMod, Nat.reduceDiv, Nat.reduceLT, Nat.reduceLeDiff, reduceCtorEq, decide_true, decide_false, Bool.false_eq_true, true_and, and_true, eq_self, Nat.zero_add, Nat.add_zero, Nat.mul_one, Nat.zero_mul, Nat.sub_zero, List.drop_zero, List.nil_append, List.append_nil, List.cons_append, Nat.zero_le]) (by simp (maxSteps := 10000000) (implicitDefEqProofs := false) only [go_sem, get_set, ↓reduceIte, Nat.reduceEqDiff, Nat.reduceAdd, Nat.reduceSub, Nat.reduceMul, Nat.reduceMod, Nat.reduceDiv, Nat.reduceLT, Nat.reduceLeDiff, reduceCtorEq, decide_true, decide_false, Bool.false_eq_true, true_and, and_true, eq_self, Nat.zero_add, Nat.add_zero, Nat.mul_one, Nat.zero_mul, Nat.sub_zero, List.drop_zero, List.nil_append, List.append_nil, List.cons_append, Nat.zero_le]) (by simp (maxSteps := 10000000) (implicitDefEqProofs := false) only [go_sem, get_set, ↓reduceIte, Nat.reduceEqDiff, Nat.reduceAdd, Nat.reduceSub, Nat.reduceMul, Nat.reduceMod, Nat.reduceDiv, Nat.reduceLT, Nat.reduceLeDiff, reduceCtorEq, decide_true, decide_false, Bool.false_eq_true, true_and, and_true, eq_self, Nat.zero_add, Nat.add_zero, Nat.mul_one, Nat.zero_mul, Nat.sub_zero, List.drop_zero, List.nil_append, List.append_nil, List.cons_append, Nat.zero_le])).mono ?_
        · rw [at_of (hadd_same h _)]; exact bytesV_get _ hi
        rintro e1 ⟨tm, df, h'⟩ ⟨rfl, al, rfl, ⟨rfl, ha, g4⟩ | ⟨rfl, ha, g4⟩⟩
        · have g3 := (al 3 (by rfl)).trans (by simp (maxSteps := 10000000) (implicitDefEqProofs := false) only [go_sem, get_set, ↓reduceIte, Nat.reduceEqDiff, Nat.reduceAdd, Nat.reduceSub, Nat.reduceMul, Nat.reduceMod, Nat.reduceDiv, Nat.reduceLT, Nat.reduceLeDiff, reduceCtorEq, decide_true, decide_false, Bool.false_eq_true, true_and, and_true, eq_self, Nat.zero_add, Nat.add_zero, Nat.mul_one, Nat.zero_mul, Nat.sub_zero, List.drop_zero, List.nil_append, List.append_nil, List.cons_append, Nat.zero_le] <;> rfl)
          rw [ha] at e
          by_cases h3 : 2000 < (trimP [45] s).length
          · rw [if_pos rfl, if_pos h3] at e
            simp (maxSteps := 10000000) (implicitDefEqProofs := false) (disch := first | omega | (simp only [add_nx, set_nx, kill_nx, bump_nx]; omega)) only [go_sem, get_set, ↓reduceIte, Nat.reduceEqDiff, Nat.reduceAdd, Nat.reduceSub, Nat.reduceMul, Nat.reduceMod, Nat.reduceDiv, Nat.reduceLT, Nat.reduceLeDiff, reduceCtorEq, decide_true, decide_false, Bool.false_eq_true, true_and, and_true, eq_self, Nat.zero_add, Nat.add_zero, Nat.mul_one, Nat.zero_mul, Nat.sub_zero, List.drop_zero, List.nil_append, List.append_nil, List.cons_append, Nat.zero_le, wrap64_nat, wrap64_int, wrap8u_lt, wrap32u_lt, wrap64u_lt, subI_nat, ixs_at, slcS_at, ia_sl, ia_ar, hadd_eq, hadd_ne, hset_eq, hset_ne, hkill_ne, at_add_same, at_add_ne, at_set_same, at_set_ne, at_kill_ne, mks_ok, bin_s_add, g3, g4, h3, e]
            exact (Gr.refl ok).add _
          · rw [if_pos rfl, if_neg h3] at e
            simp (maxSteps := 10000000) (implicitDefEqProofs := false) (disch := first | omega | (simp only [add_nx, set_nx, kill_nx, bump_nx]; omega)) only [go_sem, get_set, ↓reduceIte, Nat.reduceEqDiff, Nat.reduceAdd, Nat.reduceSub, Nat.reduceMul, Nat.reduceMod, Nat.reduceDiv, Nat.reduceLT, Nat.reduceLeDiff, reduceCtorEq, decide_true, decide_false, Bool.false_eq_true, true_and, and_true, eq_self, Nat.zero_add, Nat.add_zero, Nat.mul_one, Nat.zero_mul, Nat.sub_zero, List.drop_zero, List.nil_append, List.append_nil, List.cons_append, Nat.zero_le, wrap64_nat, wrap64_int, wrap8u_lt, wrap32u_lt, wrap64u_lt, subI_nat, ixs_at, slcS_at, ia_sl, ia_ar, hadd_eq, hadd_ne, hset_eq, hset_ne, hkill_ne, at_add_same, at_add_ne, at_set_same, at_set_ne, at_kill_ne, mks_ok, bin_s_add, g3, g4, h3, e]
            exact (Gr.refl ok).add _
        · rw [ha] at e
          simp only [Bool.false_eq_true, if_false] at e
          simp (maxSteps := 10000000) (implicitDefEqProofs := false) (disch := first | omega | (simp only [add_nx, set_nx, kill_nx, bump_nx]; omega)) only [go_sem, get_set, ↓reduceIte, Nat.reduceEqDiff, Nat.reduceAdd, Nat.reduceSub, Nat.reduceMul, Nat.reduceMod, Nat.reduceDiv, Nat.reduceLT, Nat.reduceLeDiff, reduceCtorEq, decide_true, decide_false, Bool.false_eq_true, true_and, and_true, eq_self, Nat.zero_add, Nat.add_zero, Nat.mul_one, Nat.zero_mul, Nat.sub_zero, List.drop_zero, List.nil_append, List.append_nil, List.cons_append, Nat.zero_le, wrap64_nat, wrap64_int, wrap8u_lt, wrap32u_lt, wrap64u_lt, subI_nat, ixs_at, slcS_at, ia_sl, ia_ar, hadd_eq, hadd_ne, hset_eq, hset_ne, hkill_ne, at_add_same, at_add_ne, at_set_same, at_set_ne, at_kill_ne, mks_ok, bin_s_add, g4, e]
          exact (Gr.refl ok).add _
end Go.Proofs.YtgnpoaoekhplhaaGreatDoor.AE.Tst
set_option linter.unusedVariables false
set_option linter.unusedSimpArgs false
namespace Go.Proofs.YtgnpoaoekhplhaaGreatDoor.AE.Tst
open Go Go.Proofs.YtgnpoaoekhplhaaGreatDoor.AE Go.Proofs.YtgnpoaoekhplhaaGreatDoor.AE.Sim

/-! ### Numbers of texts -/
def dval (l : List UInt8) : Nat := l.foldl (fun n c => 10 * n + (c.toNat - 48)) 0
theorem dval_snoc (l : List UInt8) (c : UInt8) : dval (l ++ [c]) = 10 * dval l + (c.toNat - 48) := by simp [dval]
theorem dval_lt : ∀ (l : List UInt8), l.all isDig = true → dval l < 10 ^ l.length := by
  intro l
  induction hl : l.length generalizing l with
  | zero => intro _; have := List.length_eq_zero_iff.1 hl; subst this; simp [dval]
  | succ n ih =>
    intro ha
    have hne : l ≠ [] := by intro e; subst e; simp at hl
    rw [← List.dropLast_concat_getLast hne] at ha ⊢
    rw [dval_snoc]
    rw [List.all_append, Bool.and_eq_true] at ha
    have h1 := ih l.dropLast (by simp [hl]) ha.1
    have h2 := ha.2
    simp only [List.all_cons, List.all_nil, Bool.and_true, isDig, Bool.and_eq_true, decide_eq_true_eq] at h2
    rw [Nat.pow_succ]; omega
theorem dval_take_succ (l : List UInt8) (i : Nat) (hi : i < l.length) : dval (l.take (i + 1)) = 10 * dval (l.take i) + (l[i].toNat - 48) := by
  rw [List.take_succ_eq_append_getElem hi, dval_snoc]
theorem pow10_le {a : Nat} (h : a ≤ 9) : 10 ^ a ≤ 1000000000 := by
  have : 10 ^ a ≤ 10 ^ 9 := Nat.pow_le_pow_right (by omega) h
  simpa using this
theorem pow10_le8 {a : Nat} (h : a ≤ 8) : 10 ^ a ≤ 100000000 := by
  have : 10 ^ a ≤ 10 ^ 8 := Nat.pow_le_pow_right (by omega) h
  simpa using this

theorem parse_loop (h : Hp) (tm : Tm) (id : Nat) (l : List UInt8) (hb : ∀ i (hi : i < l.length), h.at id i = some (.i .u8 ((l[i].toNat : Nat) : Int)))
    (hl : l.length ≤ 9) (hd : l.all isDig = true) (h99 : tm.get 99 = some (.sl id 0 l.length none)) (h100 : tm.get 100 = some (.i .i64 ((l.length : Nat) : Int))) (h101 : tm.get 101 = some (.i .i64 ((0 : Nat) : Int)))
    (h13 : tm.get 13 = some (.i .u64 ((0 : Nat) : Int))) (h12 : tm.get 12 = some (.b false)) (h1 : tm.get 1 = some (.i .i64 ((10 : Nat) : Int))) (h8 : tm.get 8 = some (.b false))
    (h10 : tm.get 10 = some (.i .u64 ((1844674407370955162 : Nat) : Int))) (h11 : tm.get 11 = some (.i .u64 ((4294967295 : Nat) : Int))) :
    Yc (E (.loop none l198_0 ⟨tm, [], h⟩)) fun e st => st.df = [] ∧ AlB (wrs l198_0) tm st.tm ∧ (e = .exit 3 ∧ st.h = h ∧ st.tm.get 13 = some (.i .u64 ((dval l : Nat) : Int)) ∧ st.tm.get 12 = some (.b false)) := by
  refine E_rule (α := Nat) (fun i tm h' => h' = h ∧ i ≤ l.length ∧ tm.get 101 = some (.i .i64 (i : Int)) ∧ tm.get 13 = some (.i .u64 ((dval (l.take i) : Nat) : Int)) ∧ tm.get 12 = some (.b false)) (fun i => l.length - i)
    (fun e tm h' => e = .exit 3 ∧ h' = h ∧ tm.get 13 = some (.i .u64 ((dval l : Nat) : Int)) ∧ tm.get 12 = some (.b false)) (by rfl) ?_ 0 tm h ⟨rfl, by omega, h101, h13, h12⟩ (AlB.refl _ _)
  rintro i tm' h' ⟨rfl, hi, g101, g13, g12⟩ al
  have g99 := (al 99 (by rfl)).trans h99
  have g100 := (al 100 (by rfl)).trans h100
  have g1 := (al 1 (by rfl)).trans h1
  have g8 := (al 8 (by rfl)).trans h8
  have g10 := (al 10 (by rfl)).trans h10
  have g11 := (al 11 (by rfl)).trans h11
  by_cases hlt : i < l.length
  · have hat := hb i hlt
    have hdi : isDig l[i] = true := List.all_eq_true.1 hd _ (List.getElem_mem hlt)
    simp only [isDig, Bool.and_eq_true, decide_eq_true_eq] at hdi
    have hv := dval_lt (l.take i) (by rw [List.all_eq_true] at hd ⊢; exact fun x hx => hd x (List.mem_of_mem_take hx))
    rw [List.length_take, Nat.min_eq_left hi] at hv
    have hv2 := pow10_le8 (a := i) (by omega)
    have a0 : ¬ l[i].toNat = 95 := by omega
    have a1 : ¬ l[i].toNat < 48 := by omega
    have a2 : ¬ 57 < l[i].toNat := by omega
    have a3 : l[i].toNat - 48 < 10 := by omega
    have a4 : dval (l.take i) < 1844674407370955162 := by omega
    have a5 : ¬ dval (l.take i) * 10 + (l[i].toNat - 48) < dval (l.take i) * 10 := by omega
    have a6 : ¬ 4294967295 < dval (l.take i) * 10 + (l[i].toNat - 48) := by omega
    have a7 : ((48 : Nat) : Int) = ((48 : Nat) : Int) := rfl
    simp (maxSteps := 10000000) (implicitDefEqProofs := false) (disch := first | omega | (simp only [add_nx, set_nx, kill_nx, bump_nx]; omega)) only [go_sem, get_set, ↓reduceIte, Nat.reduceEqDiff, Nat.reduceAdd, Nat.reduceSub, Nat.reduceMul, Nat.reduceMod, Nat.reduceDiv, Nat.reduceLT, Nat.reduceLeDiff, reduceCtorEq, decide_true, decide_false, Bool.false_eq_true, true_and, and_true, eq_self, Nat.zero_add, Nat.add_zero, Nat.mul_one, Nat.zero_mul, Nat.sub_zero, List.drop_zero, List.nil_append, List.append_nil, List.cons_append, Nat.zero_le, wrap64_nat, wrap64_int, wrap8u_lt, wrap32u_lt, wrap64u_lt, subI_nat, ixs_at, slcS_at, ia_sl, ia_ar, hadd_eq, hadd_ne, hset_eq, hset_ne, hkill_ne, at_add_same, at_add_ne, at_set_same, at_set_ne, at_kill_ne, mks_ok, bin_s_add, l198_0, g99, g100, g101, g13, g12, g1, g8, g10, g11, hlt, hat, a0, a1, a2, a3, a4, a5, a6]
    exact ⟨i + 1, by omega, by omega, rfl, by rw [dval_take_succ l i hlt, Nat.mul_comm 10]⟩
  · have : i = l.length := by omega
    subst this
    rw [List.take_of_length_le (by omega)] at g13
    simp (maxSteps := 10000000) (implicitDefEqProofs := false) (disch := first | omega | (simp only [add_nx, set_nx, kill_nx, bump_nx]; omega)) only [go_sem, get_set, ↓reduceIte, Nat.reduceEqDiff, Nat.reduceAdd, Nat.reduceSub, Nat.reduceMul, Nat.reduceMod, Nat.reduceDiv, Nat.reduceLT, Nat.reduceLeDiff, reduceCtorEq, decide_true, decide_false, Bool.false_eq_true, true_and, and_true, eq_self, Nat.zero_add, Nat.add_zero, Nat.mul_one, Nat.zero_mul, Nat.sub_zero, List.drop_zero, List.nil_append, List.append_nil, List.cons_append, Nat.zero_le, wrap64_nat, wrap64_int, wrap8u_lt, wrap32u_lt, wrap64u_lt, subI_nat, ixs_at, slcS_at, ia_sl, ia_ar, hadd_eq, hadd_ne, hset_eq, hset_ne, hkill_ne, at_add_same, at_add_ne, at_set_same, at_set_ne, at_kill_ne, mks_ok, bin_s_add, l198_0, g101, g100, g13, g12, hlt]

theorem parseUint_ok (s : List UInt8) (h : Hp) (ok : h.Ok) (h0 : s ≠ []) (hl : s.length ≤ 9) (hd : s.all isDig = true) :
    Yv (E (.call 186 [.s s, .i .i64 ((10 : Nat) : Int), .i .i64 ((32 : Nat) : Int)] h)) fun v h' => v = .tu [.i .u64 ((dval s : Nat) : Int), .inil] ∧ Gr h h' := by
  rw [e186]
  simp (maxSteps := 10000000) (implicitDefEqProofs := false) only [go_sem, get_set, ↓reduceIte, Nat.reduceEqDiff, Nat.reduceAdd, Nat.reduceSub, Nat.reduceMul, Nat.reduceMod, Nat.reduceDiv, Nat.reduceLT, Nat.reduceLeDiff, reduceCtorEq, decide_true, decide_false, Bool.false_eq_true, true_and, and_true, eq_self, Nat.zero_add, Nat.add_zero, Nat.mul_one, Nat.zero_mul, Nat.sub_zero, List.drop_zero, List.nil_append, List.append_nil, List.cons_append, Nat.zero_le, b186]
  rw [e198]
  have hsh : binV .shl (some (.i .u64 ((1 : Nat) : Int))) (some (.i .u64 ((32 : Nat) : Int))) = some (.i .u64 ((4294967296 : Nat) : Int)) := by rfl
  have hf : decide (s = []) = false := by simp [h0]
  have hi : eqVO true .ifc (some .inil) (some .inil) = some (.b false) := rfl
  simp (maxSteps := 10000000) (implicitDefEqProofs := false) (disch := first | omega | (simp only [add_nx, set_nx, kill_nx, bump_nx]; omega)) only [go_sem, get_set, ↓reduceIte, Nat.reduceEqDiff, Nat.reduceAdd, Nat.reduceSub, Nat.reduceMul, Nat.reduceMod, Nat.reduceDiv, Nat.reduceLT, Nat.reduceLeDiff, reduceCtorEq, decide_true, decide_false, Bool.false_eq_true, true_and, and_true, eq_self, Nat.zero_add, Nat.add_zero, Nat.mul_one, Nat.zero_mul, Nat.sub_zero, List.drop_zero, List.nil_append, List.append_nil, List.cons_append, Nat.zero_le, wrap64_nat, wrap64_int, wrap8u_lt, wrap32u_lt, wrap64u_lt, subI_nat, ixs_at, slcS_at, ia_sl, ia_ar, hadd_eq, hadd_ne, hset_eq, hset_ne, hkill_ne, at_add_same, at_add_ne, at_set_same, at_set_ne, at_kill_ne, mks_ok, bin_s_add, b198, h0, hf, hsh, s2b_ok]
  refine (parse_loop _ _ h.nx s (fun i hi => ?_) hl hd (by simp (maxSteps := 10000000) (implicitDefEqProofs := false) only [go_sem, get_set, ↓reduceIte, Nat.reduceEqDiff, Nat.reduceAdd, Nat.reduceSub, Nat.reduceMul, Nat.reduceMod, Nat.reduceDiv, Nat.reduceLT, Nat.reduceLeDiff, reduceCtorEq, decide_true, decide_false, Bool.false_eq_true, true_and, and_true, eq_self, Nat.zero_add, Nat.add_zero, Nat.mul_one, Nat.zero_mul, Nat.sub_zero, List.drop_zero, List.nil_append, List.append_nil, List.cons_append, Nat.zero_le]) (by simp (maxSteps := 10000000) (implicitDefEqProofs := false) only [go_sem, get_set, ↓reduceIte, Nat.reduceEqDiff, Nat.reduceAdd, Nat.reduceSub, Nat.reduceMul, Nat.reduceMod, Nat.reduceDiv, Nat.reduceLT, Nat.reduceLeDiff, reduceCtorEq, decide_true, decide_false, Bool.false_eq_true, true_and, and_true, eq_self, Nat.zero_add, Nat.add_zero, Nat.mul_one, Nat.zero_mul, Nat.sub_zero, List.drop_zero, List.nil_append, List.append_nil, List.cons_append, Nat.zero_le]) (by simp (maxSteps := 10000000) (implicitDefEqProofs := false) only [go_sem, get_set, ↓reduceIte, Nat.reduceEqDiff, Nat.reduceAdd, Nat.reduceSub, Nat.reduceMul, Nat.reduceMod, Nat.reduceDiv, Nat.reduceLT, Nat.reduceLeDiff, reduceCtorEq, decide_true, decide_false, Bool.false_eq_true, true_and, and_true, eq_self, Nat.zero_add, Nat.add_zero, Nat.mul_one, Nat.zero_mul, Nat.sub_zero, List.drop_zero, List.nil_append, List.append_nil, List.cons_append, Nat.zero_le]) (by simp (maxSteps := 10000000) (implicitDefEqProofs := false) only [go_sem, get_set, ↓reduceIte, Nat.reduceEqDiff, Nat.reduceAdd, Nat.reduceSub, Nat.reduceMul, Nat.reduceMod, Nat.reduceDiv, Nat.reduceLT, Nat.reduceLeDiff, reduceCtorEq, decide_true, decide_false, Bool.false_eq_true, true_and, and_true, eq_self, Nat.zero_add, Nat.add_zero, Nat.mul_one, Nat.zero_mul, Nat.sub_zero, List.drop_zero, List.nil_append, List.append_nil, List.cons_append, Nat.zero_le]) (by simp (maxSteps := 10000000) (implicitDefEqProofs := false) only [go_sem, get_set, ↓reduceIte, Nat.reduceEqDiff, Nat.reduceAdd, Nat.reduceSub, Nat.reduceMul, Nat.reduceMod, Nat.reduceDiv, Nat.reduceLT, Nat.reduceLeDiff, reduceCtorEq, decide_true, decide_false, Bool.false_eq_true, true_and, and_true, eq_self, Nat.zero_add, Nat.add_zero, Nat.mul_one, Nat.zero_mul, Nat.sub_zero, List.drop_zero, List.nil_append, List.append_nil, List.cons_append, Nat.zero_le]) (by simp (maxSteps := 10000000) (implicitDefEqProofs := false) only [go_sem, get_set, ↓reduceIte, Nat.reduceEqDiff, Nat.reduceAdd, Nat.reduceSub, Nat.reduceMul, Nat.reduceMod, Nat.reduceDiv, Nat.reduceLT, Nat.reduceLeDiff, reduceCtorEq, decide_true, decide_false, Bool.false_eq_true, true_and, and_true, eq_self, Nat.zero_add, Nat.add_zero, Nat.mul_one, Nat.zero_mul, Nat.sub_zero, List.drop_zero, List.nil_append, List.append_nil, List.cons_append, Nat.zero_le]) (by simp (maxSteps := 10000000) (implicitDefEqProofs := false) only [go_sem, get_set, ↓reduceIte, Nat.reduceEqDiff, Nat.reduceAdd, Nat.reduceSub, Nat.reduceMul, Nat.reduceMod, Nat.reduceDiv, Nat.reduceLT, Nat.reduceLeDiff, reduceCtorEq, decide_true, decide_false, Bool.false_eq_true, true_and, and_true, eq_self, Nat.zero_add, Nat.add_zero, Nat.mul_one, Nat.zero_mul, Nat.sub_zero, List.drop_zero, List.nil_append, List.append_nil, List.cons_append, Nat.zero_le]) (by simp (maxSteps := 10000000) (implicitDefEqProofs := false) only [go_sem, get_set, ↓reduceIte, Nat.reduceEqDiff, Nat.reduceAdd, Nat.reduceSub, Nat.reduceMul, Nat.reduceMod, Nat.reduceDiv, Nat.reduceLT, Nat.reduceLeDiff, reduceCtorEq, decide_true, decide_false, Bool.false_eq_true, true_and, and_true, eq_self, Nat.zero_add, Nat.add_zero, Nat.mul_one, Nat.zero_mul, Nat.sub_zero, List.drop_zero, List.nil_append, List.append_nil, List.cons_append, Nat.zero_le]) (by simp (maxSteps := 10000000) (implicitDefEqProofs := false) only [go_sem, get_set, ↓reduceIte, Nat.reduceEqDiff, Nat.reduceAdd, Nat.reduceSub, Nat.reduceMul, Nat.reduceMod, Nat.reduceDiv, Nat.reduceLT, Nat.reduceLeDiff, reduceCtorEq, decide_true, decide_false, Bool.false_eq_true, true_and, and_true, eq_self, Nat.zero_add, Nat.add_zero, Nat.mul_one, Nat.zero_mul, Nat.sub_zero, List.drop_zero, List.nil_append, List.append_nil, List.cons_append, Nat.zero_le])).mono ?_
  · rw [at_of (hadd_same h _)]; exact bytesV_get _ hi
  rintro e ⟨tm, df, h'⟩ ⟨rfl, al, rfl, rfl, g13, g12⟩
  have g9 := (al 9 (by rfl))
  simp (maxSteps := 10000000) (implicitDefEqProofs := false) only [go_sem, get_set, ↓reduceIte, Nat.reduceEqDiff, Nat.reduceAdd, Nat.reduceSub, Nat.reduceMul, Nat.reduceMod, Nat.reduceDiv, Nat.reduceLT, Nat.reduceLeDiff, reduceCtorEq, decide_true, decide_false, Bool.false_eq_true, true_and, and_true, eq_self, Nat.zero_add, Nat.add_zero, Nat.mul_one, Nat.zero_mul, Nat.sub_zero, List.drop_zero, List.nil_append, List.append_nil, List.cons_append, Nat.zero_le] at g9
  simp (maxSteps := 10000000) (implicitDefEqProofs := false) (disch := first | omega | (simp only [add_nx, set_nx, kill_nx, bump_nx]; omega)) only [go_sem, get_set, ↓reduceIte, Nat.reduceEqDiff, Nat.reduceAdd, Nat.reduceSub, Nat.reduceMul, Nat.reduceMod, Nat.reduceDiv, Nat.reduceLT, Nat.reduceLeDiff, reduceCtorEq, decide_true, decide_false, Bool.false_eq_true, true_and, and_true, eq_self, Nat.zero_add, Nat.add_zero, Nat.mul_one, Nat.zero_mul, Nat.sub_zero, List.drop_zero, List.nil_append, List.append_nil, List.cons_append, Nat.zero_le, wrap64_nat, wrap64_int, wrap8u_lt, wrap32u_lt, wrap64u_lt, subI_nat, ixs_at, slcS_at, ia_sl, ia_ar, hadd_eq, hadd_ne, hset_eq, hset_ne, hkill_ne, at_add_same, at_add_ne, at_set_same, at_set_ne, at_kill_ne, mks_ok, bin_s_add, g13, g12, g9, hi]
  exact (Gr.refl ok).add _
end Go.Proofs.YtgnpoaoekhplhaaGreatDoor.AE.Tst
set_option linter.unusedVariables false
set_option linter.unusedSimpArgs false
namespace Go.Proofs.YtgnpoaoekhplhaaGreatDoor.AE.Tst
open Go Go.Proofs.YtgnpoaoekhplhaaGreatDoor.AE Go.Proofs.YtgnpoaoekhplhaaGreatDoor.AE.Sim

/-! ### Limbs -/
def lval (ls : List Nat) : Nat := ls.foldr (fun x n => x + 1000000000 * n) 0
def u32V (ls : List Nat) : List V := ls.map fun (x : Nat) => .i .u32 (x : Int)
theorem u32V_num (l : List Nat) : allNum (u32V l) = true := by
  rw [allNum_iff]; intro v hv; simp only [u32V, List.mem_map] at hv; obtain ⟨c, _, rfl⟩ := hv; rfl
theorem u32V_app (a b : List Nat) : u32V (a ++ b) = u32V a ++ u32V b := by simp [u32V]
theorem u32V_get {l : List Nat} {i : Nat} {v : V} (h : (u32V l)[i]? = some v) : ∃ hi : i < l.length, v = .i .u32 ((l[i] : Nat) : Int) := by
  simp only [u32V, List.getElem?_map, Option.map_eq_some_iff] at h
  obtain ⟨x, hx, rfl⟩ := h
  obtain ⟨hi, e⟩ := List.getElem?_eq_some_iff.1 hx
  exact ⟨hi, by rw [e]⟩
theorem u32V_len (l : List Nat) : (u32V l).length = l.length := by simp [u32V]
def Lim (ls : List Nat) : Prop := ∀ x ∈ ls, x < 1000000000
/-- A slice of limbs. -/
def LimS (h : Hp) (v : V) (ls : List Nat) : Prop := IsSl h 1 v ls.length (u32V ls) ∧ Lim ls
theorem limS_gr {h h' : Hp} (g : Gr h h') {v : V} {ls : List Nat} (e : LimS h v ls) : LimS h' v ls := ⟨g.isSl e.1, e.2⟩
/-- No zeros at the end. -/
def Norm (ls : List Nat) : Prop := ls.getLast? ≠ some 0
def trimL (ls : List Nat) : List Nat := (ls.reverse.dropWhile (· == 0)).reverse
theorem trimL_snoc_zero (l : List Nat) : trimL (l ++ [0]) = trimL l := by simp [trimL, List.dropWhile_cons]
theorem trimL_norm {l : List Nat} (h : Norm l) : trimL l = l := by
  rcases List.eq_nil_or_concat l with rfl | ⟨a, x, rfl⟩
  · rfl
  · have hx : x ≠ 0 := by intro e; subst e; exact h (by simp)
    simp [trimL, List.dropWhile_cons, hx]
theorem norm_trimL (l : List Nat) : Norm (trimL l) := by
  induction h : l.length generalizing l with
  | zero => obtain rfl := List.length_eq_zero_iff.1 h; simp [trimL, Norm]
  | succ n ih =>
    rcases List.eq_nil_or_concat l with rfl | ⟨a, x, rfl⟩
    · simp at h
    · by_cases hx : x = 0
      · subst hx
        rw [List.concat_eq_append, trimL_snoc_zero]; exact ih a (by simpa using h)
      · have : Norm (a ++ [x]) := by intro e; simp at e; exact hx e
        rw [List.concat_eq_append, trimL_norm this]; exact this
theorem lval_app (a b : List Nat) : lval (a ++ b) = lval a + 1000000000 ^ a.length * lval b := by
  induction a with
  | nil => simp [lval]
  | cons x a ih =>
    have h1 : lval (x :: a ++ b) = x + 1000000000 * lval (a ++ b) := rfl
    have h2 : lval (x :: a) = x + 1000000000 * lval a := rfl
    rw [h1, h2, ih, List.length_cons, Nat.pow_succ]
    rw [Nat.mul_add, Nat.add_assoc, ← Nat.mul_assoc, Nat.mul_comm 1000000000 (1000000000 ^ a.length)]
theorem lval_trimL (l : List Nat) : lval (trimL l) = lval l := by
  induction h : l.length generalizing l with
  | zero => obtain rfl := List.length_eq_zero_iff.1 h; rfl
  | succ n ih =>
    rcases List.eq_nil_or_concat l with rfl | ⟨a, x, rfl⟩
    · simp at h
    · by_cases hx : x = 0
      · subst hx
        rw [List.concat_eq_append, trimL_snoc_zero, ih a (by simpa using h), lval_app]
        simp [lval]
      · have : Norm (a ++ [x]) := by intro e; simp at e; exact hx e
        rw [List.concat_eq_append, trimL_norm this]
/-- Whole numbers. -/
structure WhR (h : Hp) (v : V) (neg : Bool) (ls : List Nat) : Prop where
  sl : ∃ s, v = .ag [.b neg, s] ∧ LimS h s ls
  norm : Norm ls
  sgn : neg = true → ls ≠ []
theorem whR_gr {h h' : Hp} (g : Gr h h') {v : V} {neg : Bool} {ls : List Nat} (e : WhR h v neg ls) : WhR h' v neg ls :=
  ⟨let ⟨s, a, b⟩ := e.sl; ⟨s, a, limS_gr g b⟩, e.norm, e.sgn⟩

/-! ### whole -/
theorem whole_loop (h hc : Hp) (gr : Gr h hc) (tm : Tm) (s : V) (ls : List Nat) (hs : LimS h s ls) (hl : ls.length ≤ 1099511627776) (h1 : tm.get 1 = some s) :
    Yc (E (.loop none l172_0 ⟨tm, [], hc⟩)) fun e st => st.df = [] ∧ AlB (wrs l172_0) tm st.tm ∧ (e = .exit 0 ∧ st.h = hc ∧ ∃ s', st.tm.get 1 = some s' ∧ LimS h s' (trimL ls)) := by
  refine E_rule (α := Nat) (fun k tm h' => h' = hc ∧ k ≤ ls.length ∧ trimL (ls.take k) = trimL ls ∧ ∃ s', tm.get 1 = some s' ∧ LimS h s' (ls.take k)) (fun k => k)
    (fun e tm h' => e = .exit 0 ∧ h' = hc ∧ ∃ s', tm.get 1 = some s' ∧ LimS h s' (trimL ls)) (by rfl) ?_ ls.length tm hc ⟨rfl, by omega, by rw [List.take_length], s, h1, by rw [List.take_length]; exact hs⟩ (AlB.refl _ _)
  rintro k tm' h' ⟨rfl, hk, ht, s', g1, g2⟩ al
  have hlen : (ls.take k).length = k := by rw [List.length_take]; omega
  have gl := g2.1.len
  rw [hlen] at gl
  have gs := g2.1
  rw [hlen] at gs
  by_cases h0 : 0 < k
  · obtain ⟨id, o, x, hx, hia, hat⟩ := gs.ia1 (k := .i64) (j := k - 1) (by omega)
    obtain ⟨hi, rfl⟩ := u32V_get hx
    have hat := gr.at hat
    have hi' : k - 1 < ls.length := by omega
    by_cases hz : (ls.take k)[k - 1] = 0
    · obtain ⟨s2, c1, c2⟩ := gs.cut (by omega) (lo := none) (hi := some (.i .i64 ((k - 1 : Nat) : Int))) (a := 0) (b := k - 1) (by omega) (by omega) rfl rfl (.inr (.inl rfl)) (fun e => by
        subst e; rcases gs.2 with ⟨_, e2⟩ | ⟨_, _, _, e2, _⟩
        · omega
        · cases e2)
      have c1 := slcV_gr gr c1
      rw [hz] at hat
      simp (maxSteps := 10000000) (implicitDefEqProofs := false) (disch := first | omega | (simp only [add_nx, set_nx, kill_nx, bump_nx]; omega)) only [go_sem, get_set, ↓reduceIte, Nat.reduceEqDiff, Nat.reduceAdd, Nat.reduceSub, Nat.reduceMul, Nat.reduceMod, Nat.reduceDiv, Nat.reduceLT, Nat.reduceLeDiff, reduceCtorEq, decide_true, decide_false, Bool.false_eq_true, true_and, and_true, eq_self, Nat.zero_add, Nat.add_zero, Nat.mul_one, Nat.zero_mul, Nat.sub_zero, List.drop_zero, List.nil_append, List.append_nil, List.cons_append, Nat.zero_le, wrap64_nat, wrap64_int, wrap8u_lt, wrap32u_lt, wrap64u_lt, subI_nat, ixs_at, slcS_at, ia_sl, ia_ar, hadd_eq, hadd_ne, hset_eq, hset_ne, hkill_ne, at_add_same, at_add_ne, at_set_same, at_set_ne, at_kill_ne, mks_ok, bin_s_add, l172_0, g1, gl, h0, hia, hat, c1]
      refine ⟨k - 1, by omega, by omega, ?_, s2, rfl, ?_, ?_⟩
      · rw [← ht]
        have : ls.take k = ls.take (k - 1) ++ [0] := by
          have h3 : k = k - 1 + 1 := by omega
          conv => lhs; rw [h3, List.take_succ_eq_append_getElem hi']
          rw [List.getElem_take] at hz; rw [hz]
        rw [this, trimL_snoc_zero]
      · have e1 : (ls.take (k - 1)).length = k - 1 := by rw [List.length_take]; omega
        rw [e1]
        have e2 : ((u32V (ls.take k)).drop (0 * 1)).take ((k - 1 - 0) * 1) = u32V (ls.take (k - 1)) := by
          simp only [Nat.zero_mul, List.drop_zero, Nat.sub_zero, Nat.mul_one, u32V, ← List.map_take, List.take_take]
          rw [Nat.min_eq_left (by omega)]
        rw [← e2]; exact c2
      · exact fun x hx => hs.2 x (List.mem_of_mem_take hx)
    · simp (maxSteps := 10000000) (implicitDefEqProofs := false) (disch := first | omega | (simp only [add_nx, set_nx, kill_nx, bump_nx]; omega)) only [go_sem, get_set, ↓reduceIte, Nat.reduceEqDiff, Nat.reduceAdd, Nat.reduceSub, Nat.reduceMul, Nat.reduceMod, Nat.reduceDiv, Nat.reduceLT, Nat.reduceLeDiff, reduceCtorEq, decide_true, decide_false, Bool.false_eq_true, true_and, and_true, eq_self, Nat.zero_add, Nat.add_zero, Nat.mul_one, Nat.zero_mul, Nat.sub_zero, List.drop_zero, List.nil_append, List.append_nil, List.cons_append, Nat.zero_le, wrap64_nat, wrap64_int, wrap8u_lt, wrap32u_lt, wrap64u_lt, subI_nat, ixs_at, slcS_at, ia_sl, ia_ar, hadd_eq, hadd_ne, hset_eq, hset_ne, hkill_ne, at_add_same, at_add_ne, at_set_same, at_set_ne, at_kill_ne, mks_ok, bin_s_add, l172_0, g1, gl, h0, hia, hat, hz]
      refine ⟨s', rfl, ?_⟩
      rw [← ht]
      have hn : Norm (ls.take k) := by
        intro e
        rw [List.getLast?_eq_getElem?, hlen, List.getElem?_eq_getElem hi] at e
        exact hz (Option.some.inj e)
      rw [trimL_norm hn]; exact g2
  · obtain rfl : k = 0 := by omega
    simp (maxSteps := 10000000) (implicitDefEqProofs := false) (disch := first | omega | (simp only [add_nx, set_nx, kill_nx, bump_nx]; omega)) only [go_sem, get_set, ↓reduceIte, Nat.reduceEqDiff, Nat.reduceAdd, Nat.reduceSub, Nat.reduceMul, Nat.reduceMod, Nat.reduceDiv, Nat.reduceLT, Nat.reduceLeDiff, reduceCtorEq, decide_true, decide_false, Bool.false_eq_true, true_and, and_true, eq_self, Nat.zero_add, Nat.add_zero, Nat.mul_one, Nat.zero_mul, Nat.sub_zero, List.drop_zero, List.nil_append, List.append_nil, List.cons_append, Nat.zero_le, wrap64_nat, wrap64_int, wrap8u_lt, wrap32u_lt, wrap64u_lt, subI_nat, ixs_at, slcS_at, ia_sl, ia_ar, hadd_eq, hadd_ne, hset_eq, hset_ne, hkill_ne, at_add_same, at_add_ne, at_set_same, at_set_ne, at_kill_ne, mks_ok, bin_s_add, l172_0, g1, gl, h0, Nat.lt_irrefl]
    refine ⟨s', rfl, ?_⟩
    rw [← ht]
    simpa [trimL] using g2
theorem whole_ok (neg : Bool) (s : V) (ls : List Nat) (h : Hp) (ok : h.Ok) (hs : LimS h s ls) (hl : ls.length ≤ 1099511627776) :
    Yv (E (.call 172 [.b neg, s] h)) fun v h' => WhR h v (neg && decide (0 < (trimL ls).length)) (trimL ls) ∧ Gr h h' := by
  rw [e172]
  have g0 := (Gr.refl ok).add (.c [.b false, .sn] 187 none false false 0)
  simp (maxSteps := 10000000) (implicitDefEqProofs := false) (disch := first | omega | (simp only [add_nx, set_nx, kill_nx, bump_nx]; omega)) only [go_sem, get_set, ↓reduceIte, Nat.reduceEqDiff, Nat.reduceAdd, Nat.reduceSub, Nat.reduceMul, Nat.reduceMod, Nat.reduceDiv, Nat.reduceLT, Nat.reduceLeDiff, reduceCtorEq, decide_true, decide_false, Bool.false_eq_true, true_and, and_true, eq_self, Nat.zero_add, Nat.add_zero, Nat.mul_one, Nat.zero_mul, Nat.sub_zero, List.drop_zero, List.nil_append, List.append_nil, List.cons_append, Nat.zero_le, wrap64_nat, wrap64_int, wrap8u_lt, wrap32u_lt, wrap64u_lt, subI_nat, ixs_at, slcS_at, ia_sl, ia_ar, hadd_eq, hadd_ne, hset_eq, hset_ne, hkill_ne, at_add_same, at_add_ne, at_set_same, at_set_ne, at_kill_ne, mks_ok, bin_s_add, b172]
  refine (whole_loop h _ g0 _ s ls hs hl (by simp (maxSteps := 10000000) (implicitDefEqProofs := false) only [go_sem, get_set, ↓reduceIte, Nat.reduceEqDiff, Nat.reduceAdd, Nat.reduceSub, Nat.reduceMul, Nat.reduceMod, Nat.reduceDiv, Nat.reduceLT, Nat.reduceLeDiff, reduceCtorEq, decide_true, decide_false, Bool.false_eq_true, true_and, and_true, eq_self, Nat.zero_add, Nat.add_zero, Nat.mul_one, Nat.zero_mul, Nat.sub_zero, List.drop_zero, List.nil_append, List.append_nil, List.cons_append, Nat.zero_le])).mono ?_
  rintro e ⟨tm, df, h'⟩ ⟨rfl, al, rfl, rfl, s', g1, g2⟩
  have g00 := al 0 (by rfl)
  have g04 := al 4 (by rfl)
  simp (maxSteps := 10000000) (implicitDefEqProofs := false) only [go_sem, get_set, ↓reduceIte, Nat.reduceEqDiff, Nat.reduceAdd, Nat.reduceSub, Nat.reduceMul, Nat.reduceMod, Nat.reduceDiv, Nat.reduceLT, Nat.reduceLeDiff, reduceCtorEq, decide_true, decide_false, Bool.false_eq_true, true_and, and_true, eq_self, Nat.zero_add, Nat.add_zero, Nat.mul_one, Nat.zero_mul, Nat.sub_zero, List.drop_zero, List.nil_append, List.append_nil, List.cons_append, Nat.zero_le] at g00 g04
  have gl := g2.1.len
  obtain ⟨n1, n2⟩ := g2.1.num
  have hget : (h.add (.c [.b false, .sn] 187 none false false 0)).get h.nx = some (.c [.b false, .sn] 187 none false false 0) := hadd_same _ _
  cases neg
  · simp (maxSteps := 10000000) (implicitDefEqProofs := false) (disch := first | omega | (simp only [add_nx, set_nx, kill_nx, bump_nx]; omega)) only [go_sem, get_set, ↓reduceIte, Nat.reduceEqDiff, Nat.reduceAdd, Nat.reduceSub, Nat.reduceMul, Nat.reduceMod, Nat.reduceDiv, Nat.reduceLT, Nat.reduceLeDiff, reduceCtorEq, decide_true, decide_false, Bool.false_eq_true, true_and, and_true, eq_self, Nat.zero_add, Nat.add_zero, Nat.mul_one, Nat.zero_mul, Nat.sub_zero, List.drop_zero, List.nil_append, List.append_nil, List.cons_append, Nat.zero_le, wrap64_nat, wrap64_int, wrap8u_lt, wrap32u_lt, wrap64u_lt, subI_nat, ixs_at, slcS_at, ia_sl, ia_ar, hadd_eq, hadd_ne, hset_eq, hset_ne, hkill_ne, at_add_same, at_add_ne, at_set_same, at_set_ne, at_kill_ne, mks_ok, bin_s_add, g00, g04, g1, gl, hget, n1, n2]
    exact ⟨⟨⟨s', rfl, g2⟩, norm_trimL _, fun e => by cases e⟩, g0.set (Nat.le_refl _) (Nat.lt_succ_self _) _⟩
  · by_cases hp : 0 < (trimL ls).length
    · simp (maxSteps := 10000000) (implicitDefEqProofs := false) (disch := first | omega | (simp only [add_nx, set_nx, kill_nx, bump_nx]; omega)) only [go_sem, get_set, ↓reduceIte, Nat.reduceEqDiff, Nat.reduceAdd, Nat.reduceSub, Nat.reduceMul, Nat.reduceMod, Nat.reduceDiv, Nat.reduceLT, Nat.reduceLeDiff, reduceCtorEq, decide_true, decide_false, Bool.false_eq_true, true_and, and_true, eq_self, Nat.zero_add, Nat.add_zero, Nat.mul_one, Nat.zero_mul, Nat.sub_zero, List.drop_zero, List.nil_append, List.append_nil, List.cons_append, Nat.zero_le, wrap64_nat, wrap64_int, wrap8u_lt, wrap32u_lt, wrap64u_lt, subI_nat, ixs_at, slcS_at, ia_sl, ia_ar, hadd_eq, hadd_ne, hset_eq, hset_ne, hkill_ne, at_add_same, at_add_ne, at_set_same, at_set_ne, at_kill_ne, mks_ok, bin_s_add, g00, g04, g1, gl, hget, n1, n2, hp]
      exact ⟨⟨⟨s', rfl, g2⟩, norm_trimL _, fun e e2 => by rw [e2] at hp; simp at hp⟩, g0.set (Nat.le_refl _) (Nat.lt_succ_self _) _⟩
    · simp (maxSteps := 10000000) (implicitDefEqProofs := false) (disch := first | omega | (simp only [add_nx, set_nx, kill_nx, bump_nx]; omega)) only [go_sem, get_set, ↓reduceIte, Nat.reduceEqDiff, Nat.reduceAdd, Nat.reduceSub, Nat.reduceMul, Nat.reduceMod, Nat.reduceDiv, Nat.reduceLT, Nat.reduceLeDiff, reduceCtorEq, decide_true, decide_false, Bool.false_eq_true, true_and, and_true, eq_self, Nat.zero_add, Nat.add_zero, Nat.mul_one, Nat.zero_mul, Nat.sub_zero, List.drop_zero, List.nil_append, List.append_nil, List.cons_append, Nat.zero_le, wrap64_nat, wrap64_int, wrap8u_lt, wrap32u_lt, wrap64u_lt, subI_nat, ixs_at, slcS_at, ia_sl, ia_ar, hadd_eq, hadd_ne, hset_eq, hset_ne, hkill_ne, at_add_same, at_add_ne, at_set_same, at_set_ne, at_kill_ne, mks_ok, bin_s_add, g00, g04, g1, gl, hget, n1, n2, hp]
      exact ⟨⟨⟨s', rfl, g2⟩, norm_trimL _, fun e => by cases e⟩, g0.set (Nat.le_refl _) (Nat.lt_succ_self _) _⟩
end Go.Proofs.YtgnpoaoekhplhaaGreatDoor.AE.Tst
set_option linter.unusedVariables false
set_option linter.unusedSimpArgs false
namespace Go.Proofs.YtgnpoaoekhplhaaGreatDoor.AE.Tst
open Go Go.Proofs.YtgnpoaoekhplhaaGreatDoor.AE Go.Proofs.YtgnpoaoekhplhaaGreatDoor.AE.Sim

/-! ### Slices beside other blocks -/
theorem isSl_set {h : Hp} {esz n j ty fz : Nat} {v : V} {cs bs : List V} {ro sb : Bool} {o : O} (e : IsSl h esz v n cs) (hg : h.get j = some (.c bs ty none ro sb fz)) (hd : ∀ x ∈ bs, x ∉ cs) : IsSl (h.set j o) esz v n cs := by
  refine ⟨e.1, e.2.imp id fun ⟨id, off, cap, e1, e2, e3⟩ => ⟨id, off, cap, e1, fun i hi => ?_, ?_⟩⟩
  · have hne : id ≠ j := by
      rintro rfl
      have := e2 i hi
      rw [at_of hg] at this
      exact hd _ (List.mem_of_getElem? this) (List.getElem_mem hi)
    rw [at_set_ne _ _ _ hne]; exact e2 i hi
  · cases cap with
    | some c => exact e3
    | none =>
      obtain ⟨xs, ty', ro', sb', fz', g1, g2⟩ := e3
      have hne : id ≠ j := by
        rintro rfl
        rw [hg] at g1
        have g3 := Option.some.inj g1
        injection g3 with _ _ g4; cases g4
      exact ⟨xs, ty', ro', sb', fz', by rw [hset_ne _ _ hne]; exact g1, g2⟩
/-- Not a limb. -/
def NoU (v : V) : Prop := ∀ n : Int, v ≠ .i .u32 n
theorem limS_set {h : Hp} {j ty fz : Nat} {v : V} {ls : List Nat} {bs : List V} {ro sb : Bool} {o : O} (e : LimS h v ls) (hg : h.get j = some (.c bs ty none ro sb fz)) (hd : ∀ x ∈ bs, NoU x) : LimS (h.set j o) v ls :=
  ⟨isSl_set e.1 hg (fun x hx hm => by
    simp only [u32V, List.mem_map] at hm
    obtain ⟨n, _, e⟩ := hm
    exact hd x hx _ e.symm), e.2⟩
theorem whR_set {h : Hp} {j ty fz : Nat} {v : V} {neg : Bool} {ls : List Nat} {bs : List V} {ro sb : Bool} {o : O} (e : WhR h v neg ls) (hg : h.get j = some (.c bs ty none ro sb fz)) (hd : ∀ x ∈ bs, NoU x) : WhR (h.set j o) v neg ls :=
  ⟨let ⟨s, a, b⟩ := e.sl; ⟨s, a, limS_set b hg hd⟩, e.norm, e.sgn⟩
theorem noU_res : ∀ x ∈ [V.b false, V.sn], NoU x := by
  intro x hx n e
  subst e
  simp at hx
theorem whR_cells {h : Hp} {v : V} {neg : Bool} {ls : List Nat} (e : WhR h v neg ls) : ∃ s, v = .ag [.b neg, s] ∧ s.cells = [s] ∧ s.isNum = true :=
  let ⟨s, a, b⟩ := e.sl
  ⟨s, a, b.1.num.1, b.1.num.2⟩

/-! ### Read -/
/-- The limbs of digits. -/
def lsOf (d : List UInt8) : List Nat :=
  if h : d.length = 0 then [] else dval (d.drop (d.length - 9)) :: lsOf (d.take (d.length - 9))
termination_by d.length
decreasing_by simp; omega
theorem lsOf_nil : lsOf [] = [] := by rw [lsOf]; simp
theorem lsOf_cons {d : List UInt8} (h : 0 < d.length) : lsOf d = dval (d.drop (d.length - 9)) :: lsOf (d.take (d.length - 9)) := by
  rw [lsOf, dif_neg (by omega)]
theorem dval_append (a b : List UInt8) : dval (a ++ b) = dval a * 10 ^ b.length + dval b := by
  induction h : b.length generalizing b with
  | zero => obtain rfl := List.length_eq_zero_iff.1 h; simp [dval]
  | succ n ih =>
    rcases List.eq_nil_or_concat b with rfl | ⟨c, x, rfl⟩
    · simp at h
    · rw [List.concat_eq_append] at h ⊢
      rw [← List.append_assoc, dval_snoc, dval_snoc, ih c (by simpa using h), Nat.pow_succ]
      have : dval a * (10 ^ n * 10) = 10 * (dval a * 10 ^ n) := by rw [Nat.mul_comm (10 ^ n), ← Nat.mul_assoc, Nat.mul_comm (dval a) 10, Nat.mul_assoc]
      omega
theorem lsOf_spec : ∀ (n : Nat) (d : List UInt8), d.length = n → d.all isDig = true → lval (lsOf d) = dval d ∧ Lim (lsOf d) ∧ (lsOf d).length ≤ d.length := by
  intro n
  induction n using Nat.strongRecOn with
  | _ n ih =>
    intro d hn hd
    by_cases h0 : d.length = 0
    · obtain rfl := List.length_eq_zero_iff.1 h0
      rw [lsOf_nil]
      exact ⟨rfl, fun x hx => by simp at hx, Nat.le_refl _⟩
    · have hall : ∀ k, (d.take k).all isDig = true ∧ (d.drop k).all isDig = true := by
        intro k
        rw [List.all_eq_true] at hd
        exact ⟨List.all_eq_true.2 fun x hx => hd x (List.mem_of_mem_take hx), List.all_eq_true.2 fun x hx => hd x (List.mem_of_mem_drop hx)⟩
      obtain ⟨a1, a2, a3⟩ := ih (d.take (d.length - 9)).length (by simp; omega) _ rfl (hall _).1
      have hb := dval_lt _ (hall (d.length - 9)).2
      have hlen : (d.drop (d.length - 9)).length ≤ 9 := by simp; omega
      rw [lsOf_cons (by omega)]
      refine ⟨?_, ?_, ?_⟩
      · have e1 : dval d = dval (d.take (d.length - 9)) * 10 ^ (d.drop (d.length - 9)).length + dval (d.drop (d.length - 9)) := by
          rw [← dval_append, List.take_append_drop]
        have e2 : lval (dval (d.drop (d.length - 9)) :: lsOf (d.take (d.length - 9))) = dval (d.drop (d.length - 9)) + 1000000000 * lval (lsOf (d.take (d.length - 9))) := rfl
        rw [e2, a1, e1]
        by_cases h9 : 9 ≤ d.length
        · have : (d.drop (d.length - 9)).length = 9 := by simp; omega
          rw [this]
          have : (10 : Nat) ^ 9 = 1000000000 := by decide
          rw [this]; omega
        · have : d.length - 9 = 0 := by omega
          rw [this]; simp [dval]
      · intro x hx
        rcases List.mem_cons.1 hx with rfl | hx
        · have := pow10_le hlen; omega
        · exact a2 x hx
      · simp only [List.length_cons, List.length_take] at a3 ⊢
        omega

theorem read_loop (h : Hp) (tm : Tm) (d : List UInt8) (hd : d.all isDig = true) (hl : d.length ≤ 137438953472) (B : Nat) (neg : Bool) (hc : Hp) (gr : Gr h hc) (hB : h.nx ≤ B) (hget : hc.get B = some (.c [.b neg, .sn] 187 none false false 0))
    (h3 : tm.get 3 = some (.s d)) (h4 : tm.get 4 = some (.p B 0)) (h5 : tm.get 5 = some (.i .i64 ((d.length : Nat) : Int))) :
    Yc (E (.loop none l167_0 ⟨tm, [], hc⟩)) fun e st => st.df = [] ∧ AlB (wrs l167_0) tm st.tm ∧ (e = .exit 0 ∧ Gr h st.h ∧ ∃ v, st.h.get B = some (.c [.b neg, v] 187 none false false 0) ∧ OwnSl h st.h 1 156 v (lsOf d).length (u32V (lsOf d))) := by
  obtain ⟨sp1, sp2, sp3⟩ := lsOf_spec _ d rfl hd
  refine E_rule (α := Int × List Nat) (fun x tm h' => x.1 ≤ d.length ∧ -9 ≤ x.1 ∧ x.2 ++ lsOf (d.take x.1.toNat) = lsOf d ∧ tm.get 5 = some (.i .i64 x.1) ∧ Gr h h' ∧ ∃ v, h'.get B = some (.c [.b neg, v] 187 none false false 0) ∧ OwnSl h h' 1 156 v x.2.length (u32V x.2)) (fun x => x.1.toNat)
    (fun e tm h' => e = .exit 0 ∧ Gr h h' ∧ ∃ v, h'.get B = some (.c [.b neg, v] 187 none false false 0) ∧ OwnSl h h' 1 156 v (lsOf d).length (u32V (lsOf d))) (by rfl) ?_ (((d.length : Nat) : Int), []) tm hc ⟨by simp, by simp, by simp, h5, gr, .sn, hget, OwnSl.nil _ _ _ _⟩ (AlB.refl _ _)
  rintro ⟨z, acc⟩ tm' h' ⟨hz1, hz2, hacc, g5, gr', v, gB, ow⟩ al
  dsimp only at hz1 hz2 hacc g5 ow
  have g3 := (al 3 (by rfl)).trans h3
  have g4 := (al 4 (by rfl)).trans h4
  by_cases hp : 0 < z
  · obtain ⟨e, rfl⟩ : ∃ e : Nat, z = (e : Int) := ⟨z.toNat, by omega⟩
    have hp' : 0 < e := by omega
    have he : e ≤ d.length := by omega
    have hlen : (d.take e).length = e := by rw [List.length_take]; omega
    have hall : ((d.drop (e - 9)).take (e - (e - 9))).all isDig = true := by
      rw [List.all_eq_true] at hd ⊢
      exact fun x hx => hd x (List.mem_of_mem_drop (List.mem_of_mem_take hx))
    have hchunk : (d.take e).drop (e - 9) = (d.drop (e - 9)).take (e - (e - 9)) := by rw [List.drop_take]
    have hls : lsOf (d.take e) = dval ((d.drop (e - 9)).take (e - (e - 9))) :: lsOf (d.take (e - 9)) := by
      rw [lsOf_cons (by omega), hlen, hchunk, List.take_take, Nat.min_eq_left (by omega)]
    have hdv := dval_lt _ hall
    have hcl : ((d.drop (e - 9)).take (e - (e - 9))).length ≤ 9 := by simp; omega
    have hcn : (d.drop (e - 9)).take (e - (e - 9)) ≠ [] := by
      intro e0
      have := congrArg List.length e0
      simp at this; omega
    have hdb := pow10_le hcl
    have hacclen : acc.length + 1 ≤ d.length := by
      have h1 := congrArg List.length hacc
      rw [Int.toNat_natCast, hls] at h1
      simp at h1; omega
    have hmm : mmO true (some [.i .i64 ((0 : Nat) : Int), .i .i64 (((e : Nat) : Int) - ((9 : Nat) : Int))]) = some (.i .i64 ((e - 9 : Nat) : Int)) := by
      by_cases h9 : 9 ≤ e
      · have : ((e : Nat) : Int) - ((9 : Nat) : Int) = ((e - 9 : Nat) : Int) := by omega
        rw [this, mm_max]; simp
      · rw [mm_neg (by omega)]
        have : e - 9 = 0 := by omega
        rw [this]
    have hx : OwnSl h h' 1 156 v acc.length (u32V acc) := ow
    simp (maxSteps := 10000000) (implicitDefEqProofs := false) (disch := first | omega | (simp only [add_nx, set_nx, kill_nx, bump_nx]; omega)) only [go_sem, get_set, ↓reduceIte, Nat.reduceEqDiff, Nat.reduceAdd, Nat.reduceSub, Nat.reduceMul, Nat.reduceMod, Nat.reduceDiv, Nat.reduceLT, Nat.reduceLeDiff, reduceCtorEq, decide_true, decide_false, Bool.false_eq_true, true_and, and_true, eq_self, Nat.zero_add, Nat.add_zero, Nat.mul_one, Nat.zero_mul, Nat.sub_zero, List.drop_zero, List.nil_append, List.append_nil, List.cons_append, Nat.zero_le, wrap64_nat, wrap64_int, wrap8u_lt, wrap32u_lt, wrap64u_lt, subI_nat, ixs_at, slcS_at, ia_sl, ia_ar, hadd_eq, hadd_ne, hset_eq, hset_ne, hkill_ne, at_add_same, at_add_ne, at_set_same, at_set_ne, at_kill_ne, mks_ok, bin_s_add, l167_0, g3, g4, g5, hp', hmm]
    refine (parseUint_ok _ h' gr'.ok hcn hcl hall).mono ?_
    rintro v1 h1 ⟨rfl, gr1⟩
    have gB1 := gr1.keep _ _ gB
    have gr2 := (gr'.trans gr1).add (.c [.i .u32 ((dval ((d.drop (e - 9)).take (e - (e - 9))) : Nat) : Int)] 156 none false false 0)
    have gr12 := (Gr.refl gr1.ok).add (.c [.i .u32 ((dval ((d.drop (e - 9)).take (e - (e - 9))) : Nat) : Int)] 156 none false false 0)
    have ow1 := gr12.own (gr1.own ow)
    have gB2 := gr12.keep _ _ gB1
    obtain ⟨v', h3, ea, ow3, gr3, keep3, nx3⟩ := app_own (bytes := 4) gr2 ow1 (elems_new (c := some 1) (hadd_same h1 _)) (by rw [show u32V acc ++ [V.i .u32 ((dval ((d.drop (e - 9)).take (e - (e - 9))) : Nat) : Int)] = u32V (acc ++ [dval ((d.drop (e - 9)).take (e - (e - 9)))]) by rw [u32V_app]; rfl]; exact u32V_num _) (by omega) (by simp) (by simp [bigB]; omega)
    have gB3 := keep3 B _ gB2 (by
      rintro rfl
      rcases ow.2 with ⟨e0, _⟩ | ⟨id, e0, _, e1⟩
      · cases e0
      · cases e0; have e2 := Option.some.inj (gB.symm.trans e1); injection e2 with _ _ e3; cases e3)
    have hBnx : B < h3.nx := gr3.ok.lt gB3
    obtain ⟨n1, n2⟩ := (ow3.isSl (by omega)).num
    have hat1 : h1.at B 1 = some v := by rw [at_of gB1]; rfl
    simp (maxSteps := 10000000) (implicitDefEqProofs := false) (disch := first | omega | (simp only [add_nx, set_nx, kill_nx, bump_nx]; omega)) only [go_sem, get_set, ↓reduceIte, Nat.reduceEqDiff, Nat.reduceAdd, Nat.reduceSub, Nat.reduceMul, Nat.reduceMod, Nat.reduceDiv, Nat.reduceLT, Nat.reduceLeDiff, reduceCtorEq, decide_true, decide_false, Bool.false_eq_true, true_and, and_true, eq_self, Nat.zero_add, Nat.add_zero, Nat.mul_one, Nat.zero_mul, Nat.sub_zero, List.drop_zero, List.nil_append, List.append_nil, List.cons_append, Nat.zero_le, wrap64_nat, wrap64_int, wrap8u_lt, wrap32u_lt, wrap64u_lt, subI_nat, ixs_at, slcS_at, ia_sl, ia_ar, hadd_eq, hadd_ne, hset_eq, hset_ne, hkill_ne, at_add_same, at_add_ne, at_set_same, at_set_ne, at_kill_ne, mks_ok, bin_s_add, hat1, ea, gB3, n1, n2]
    have hu : u32V acc ++ [V.i .u32 ((dval ((d.drop (e - 9)).take (e - (e - 9))) : Nat) : Int)] = u32V (acc ++ [dval ((d.drop (e - 9)).take (e - (e - 9)))]) := by rw [u32V_app]; rfl
    rw [hu] at ow3
    have hz : (((e : Nat) : Int) - ((9 : Nat) : Int)).toNat = e - 9 := by omega
    refine ⟨(((e : Nat) : Int) - ((9 : Nat) : Int), acc ++ [dval ((d.drop (e - 9)).take (e - (e - 9)))]), by rw [hz]; omega, by dsimp only; omega, by dsimp only; omega, ?_, rfl, gr3.set hB hBnx _, v', rfl, ?_⟩
    · dsimp only
      rw [hz, List.append_assoc, List.singleton_append, ← hls, ← hacc, Int.toNat_natCast]
    · have : (acc ++ [dval ((d.drop (e - 9)).take (e - (e - 9)))]).length = acc.length + 1 := by simp
      dsimp only
      rw [this]
      refine ⟨by rw [u32V_len, this]; omega, ow3.2.imp id fun ⟨id, e1, e2, e3⟩ => ⟨id, e1, e2, ?_⟩⟩
      rw [hset_ne _ _ ?_]
      · exact e3
      · rintro rfl; rw [gB3] at e3; have e4 := Option.some.inj e3; injection e4 with _ _ e5; cases e5
  · have hz : z.toNat = 0 := by omega
    rw [hz, List.take_zero, lsOf_nil, List.append_nil] at hacc
    subst hacc
    have hlt : ltI ((0 : Nat) : Int) z = false := by rw [ltI_int]; simp; omega
    simp (maxSteps := 10000000) (implicitDefEqProofs := false) (disch := first | omega | (simp only [add_nx, set_nx, kill_nx, bump_nx]; omega)) only [go_sem, get_set, ↓reduceIte, Nat.reduceEqDiff, Nat.reduceAdd, Nat.reduceSub, Nat.reduceMul, Nat.reduceMod, Nat.reduceDiv, Nat.reduceLT, Nat.reduceLeDiff, reduceCtorEq, decide_true, decide_false, Bool.false_eq_true, true_and, and_true, eq_self, Nat.zero_add, Nat.add_zero, Nat.mul_one, Nat.zero_mul, Nat.sub_zero, List.drop_zero, List.nil_append, List.append_nil, List.cons_append, Nat.zero_le, wrap64_nat, wrap64_int, wrap8u_lt, wrap32u_lt, wrap64u_lt, subI_nat, ixs_at, slcS_at, ia_sl, ia_ar, hadd_eq, hadd_ne, hset_eq, hset_ne, hkill_ne, at_add_same, at_add_ne, at_set_same, at_set_ne, at_kill_ne, mks_ok, bin_s_add, l167_0, g3, g4, g5, hlt]
    exact ⟨gr', v, gB, ow⟩
/-- What Read gives. -/
def readNeg (s : List UInt8) : Bool := decide ((trimP [45] s).length < s.length)
theorem read_ok (s : List UInt8) (h : Hp) (ok : h.Ok) (hl : s.length ≤ 137438953472) (hd : (trimP [45] s).all isDig = true) :
    Yv (E (.call 167 [.s s] h)) fun v h' => WhR h' v (readNeg s && decide (0 < (trimL (lsOf (trimP [45] s))).length)) (trimL (lsOf (trimP [45] s))) ∧ Gr h h' := by
  have htl : (trimP [45] s).length ≤ s.length := by unfold trimP; split <;> simp
  obtain ⟨sp1, sp2, sp3⟩ := lsOf_spec _ _ rfl hd
  rw [e167]
  have g0 := (Gr.refl ok).add (.c [.b false, .sn] 187 none false false 0)
  have hg0 : (h.add (.c [.b false, .sn] 187 none false false 0)).get h.nx = some (.c [.b false, .sn] 187 none false false 0) := hadd_same h _
  have g1 := (Gr.refl g0.ok).add (.c [.b false, .sn] 187 none false false 0)
  have hg1 : ((h.add (.c [.b false, .sn] 187 none false false 0)).add (.c [.b false, .sn] 187 none false false 0)).get (h.nx + 1) = some (.c [.b false, .sn] 187 none false false 0) := hadd_same (h.add _) _
  have g1' := g1.set (j := h.nx + 1) (by exact Nat.le_refl _) (by show h.nx + 1 < h.nx + 1 + 1; omega) (.c [.b (readNeg s), .sn] 187 none false false 0)
  simp (maxSteps := 10000000) (implicitDefEqProofs := false) (disch := first | omega | (simp only [add_nx, set_nx, kill_nx, bump_nx]; omega)) only [go_sem, get_set, ↓reduceIte, Nat.reduceEqDiff, Nat.reduceAdd, Nat.reduceSub, Nat.reduceMul, Nat.reduceMod, Nat.reduceDiv, Nat.reduceLT, Nat.reduceLeDiff, reduceCtorEq, decide_true, decide_false, Bool.false_eq_true, true_and, and_true, eq_self, Nat.zero_add, Nat.add_zero, Nat.mul_one, Nat.zero_mul, Nat.sub_zero, List.drop_zero, List.nil_append, List.append_nil, List.cons_append, Nat.zero_le, wrap64_nat, wrap64_int, wrap8u_lt, wrap32u_lt, wrap64u_lt, subI_nat, ixs_at, slcS_at, ia_sl, ia_ar, hadd_eq, hadd_ne, hset_eq, hset_ne, hkill_ne, at_add_same, at_add_ne, at_set_same, at_set_ne, at_kill_ne, mks_ok, bin_s_add, b167, trimPrefix_ok, hg1]
  refine (read_loop _ _ (trimP [45] s) hd (by omega) (h.nx + 1) (readNeg s) _ g1' (by exact Nat.le_refl _) (by exact hset_same _ _ _) (by simp (maxSteps := 10000000) (implicitDefEqProofs := false) only [go_sem, get_set, ↓reduceIte, Nat.reduceEqDiff, Nat.reduceAdd, Nat.reduceSub, Nat.reduceMul, Nat.reduceMod, Nat.reduceDiv, Nat.reduceLT, Nat.reduceLeDiff, reduceCtorEq, decide_true, decide_false, Bool.false_eq_true, true_and, and_true, eq_self, Nat.zero_add, Nat.add_zero, Nat.mul_one, Nat.zero_mul, Nat.sub_zero, List.drop_zero, List.nil_append, List.append_nil, List.cons_append, Nat.zero_le]) (by simp (maxSteps := 10000000) (implicitDefEqProofs := false) only [go_sem, get_set, ↓reduceIte, Nat.reduceEqDiff, Nat.reduceAdd, Nat.reduceSub, Nat.reduceMul, Nat.reduceMod, Nat.reduceDiv, Nat.reduceLT, Nat.reduceLeDiff, reduceCtorEq, decide_true, decide_false, Bool.false_eq_true, true_and, and_true, eq_self, Nat.zero_add, Nat.add_zero, Nat.mul_one, Nat.zero_mul, Nat.sub_zero, List.drop_zero, List.nil_append, List.append_nil, List.cons_append, Nat.zero_le]) (by simp (maxSteps := 10000000) (implicitDefEqProofs := false) only [go_sem, get_set, ↓reduceIte, Nat.reduceEqDiff, Nat.reduceAdd, Nat.reduceSub, Nat.reduceMul, Nat.reduceMod, Nat.reduceDiv, Nat.reduceLT, Nat.reduceLeDiff, reduceCtorEq, decide_true, decide_false, Bool.false_eq_true, true_and, and_true, eq_self, Nat.zero_add, Nat.add_zero, Nat.mul_one, Nat.zero_mul, Nat.sub_zero, List.drop_zero, List.nil_append, List.append_nil, List.cons_append, Nat.zero_le])).mono ?_
  rintro e ⟨tm, df, h'⟩ ⟨rfl, al, rfl, gr, v, gB, ow⟩
  dsimp only at al gr gB ow
  have g2 := al 2 (by rfl)
  have g4 := al 4 (by rfl)
  simp (maxSteps := 10000000) (implicitDefEqProofs := false) only [go_sem, get_set, ↓reduceIte, Nat.reduceEqDiff, Nat.reduceAdd, Nat.reduceSub, Nat.reduceMul, Nat.reduceMod, Nat.reduceDiv, Nat.reduceLT, Nat.reduceLeDiff, reduceCtorEq, decide_true, decide_false, Bool.false_eq_true, true_and, and_true, eq_self, Nat.zero_add, Nat.add_zero, Nat.mul_one, Nat.zero_mul, Nat.sub_zero, List.drop_zero, List.nil_append, List.append_nil, List.cons_append, Nat.zero_le] at g2 g4
  have a0 : h'.at (h.nx + 1) 0 = some (.b (readNeg s)) := by rw [at_of gB]; rfl
  have a1 : h'.at (h.nx + 1) 1 = some v := by rw [at_of gB]; rfl
  simp (maxSteps := 10000000) (implicitDefEqProofs := false) (disch := first | omega | (simp only [add_nx, set_nx, kill_nx, bump_nx]; omega)) only [go_sem, get_set, ↓reduceIte, Nat.reduceEqDiff, Nat.reduceAdd, Nat.reduceSub, Nat.reduceMul, Nat.reduceMod, Nat.reduceDiv, Nat.reduceLT, Nat.reduceLeDiff, reduceCtorEq, decide_true, decide_false, Bool.false_eq_true, true_and, and_true, eq_self, Nat.zero_add, Nat.add_zero, Nat.mul_one, Nat.zero_mul, Nat.sub_zero, List.drop_zero, List.nil_append, List.append_nil, List.cons_append, Nat.zero_le, wrap64_nat, wrap64_int, wrap8u_lt, wrap32u_lt, wrap64u_lt, subI_nat, ixs_at, slcS_at, ia_sl, ia_ar, hadd_eq, hadd_ne, hset_eq, hset_ne, hkill_ne, at_add_same, at_add_ne, at_set_same, at_set_ne, at_kill_ne, mks_ok, bin_s_add, g2, g4, a0, a1]
  refine (whole_ok (readNeg s) v (lsOf (trimP [45] s)) h' gr.ok ⟨ow.isSl (by omega), sp2⟩ (by omega)).mono ?_
  rintro v2 h2 ⟨w2, gr2⟩
  have w3 := whR_gr gr2 w2
  have gA := (gr.trans gr2).keep _ _ hg0
  obtain ⟨sv, rfl, n1, n2⟩ := whR_cells w3
  simp (maxSteps := 10000000) (implicitDefEqProofs := false) (disch := first | omega | (simp only [add_nx, set_nx, kill_nx, bump_nx]; omega)) only [go_sem, get_set, ↓reduceIte, Nat.reduceEqDiff, Nat.reduceAdd, Nat.reduceSub, Nat.reduceMul, Nat.reduceMod, Nat.reduceDiv, Nat.reduceLT, Nat.reduceLeDiff, reduceCtorEq, decide_true, decide_false, Bool.false_eq_true, true_and, and_true, eq_self, Nat.zero_add, Nat.add_zero, Nat.mul_one, Nat.zero_mul, Nat.sub_zero, List.drop_zero, List.nil_append, List.append_nil, List.cons_append, Nat.zero_le, wrap64_nat, wrap64_int, wrap8u_lt, wrap32u_lt, wrap64u_lt, subI_nat, ixs_at, slcS_at, ia_sl, ia_ar, hadd_eq, hadd_ne, hset_eq, hset_ne, hkill_ne, at_add_same, at_add_ne, at_set_same, at_set_ne, at_kill_ne, mks_ok, bin_s_add, gA, n1, n2]
  exact ⟨whR_set w3 gA noU_res, ((g0.trans gr).trans gr2).set (Nat.le_refl _) ((gr.trans gr2).ok.lt gA) _⟩
end Go.Proofs.YtgnpoaoekhplhaaGreatDoor.AE.Tst
set_option linter.unusedVariables false
set_option linter.unusedSimpArgs false
namespace Go.Proofs.YtgnpoaoekhplhaaGreatDoor.AE.Tst
open Go Go.Proofs.YtgnpoaoekhplhaaGreatDoor.AE Go.Proofs.YtgnpoaoekhplhaaGreatDoor.AE.Sim

/-! ### Finding by a function -/
/-- The first place where p holds. -/
def firstIx (p : Nat → Bool) : Nat → Nat → Int
  | 0, _ => -1
  | n + 1, i => if p i then (i : Int) else firstIx p n (i + 1)
theorem firstIx_ge (p : Nat → Bool) : ∀ n i, (0 ≤ firstIx p n i) = (∃ j, i ≤ j ∧ j < i + n ∧ p j = true)
  | 0, i => by
    simp only [firstIx, eq_iff_iff]
    constructor
    · intro h; omega
    · rintro ⟨j, h1, h2, _⟩; omega
  | n + 1, i => by
    simp only [firstIx]
    by_cases h : p i = true
    · simp only [h, if_true, eq_iff_iff]
      exact ⟨fun _ => ⟨i, by omega, by omega, h⟩, fun _ => by omega⟩
    · simp only [h, eq_iff_iff]
      have ih := firstIx_ge p n (i + 1)
      rw [eq_iff_iff] at ih
      simp only [Bool.false_eq_true, if_false]
      rw [ih]
      constructor
      · rintro ⟨j, h1, h2, h3⟩; exact ⟨j, by omega, by omega, h3⟩
      · rintro ⟨j, h1, h2, h3⟩
        refine ⟨j, ?_, by omega, h3⟩
        rcases Nat.eq_or_lt_of_le h1 with e | e
        · subst e; exact absurd h3 h
        · exact e
theorem findLoop (h : Hp) (ok : h.Ok) (tm : Tm) (v : V) (n g : Nat) (cs : List V) (p : Nat → Bool) (hs : IsSl h 1 v n cs) (hn : n ≤ 1099511627776)
    (hp : ∀ i (hi : i < cs.length) h', Gr h h' → Yv (E (.call g [cs[i]] h')) fun v h'' => v = .b (p i) ∧ Gr h' h'')
    (h0 : tm.get 0 = some v) (h1 : tm.get 1 = some (.fn g [] [])) (h7 : tm.get 7 = some (.i .i64 (n : Int))) (h8 : tm.get 8 = some (.i .i64 ((0 : Nat) : Int))) :
    Yc (E (.loop none l81_0 ⟨tm, [], h⟩)) fun e st => st.df = [] ∧ AlB (wrs l81_0) tm st.tm ∧ Gr h st.h ∧ ((e = .ret ∧ st.tm.get 4 = some (.i .i64 (firstIx p n 0)) ∧ 0 ≤ firstIx p n 0) ∨ (e = .exit 0 ∧ firstIx p n 0 = -1)) := by
  refine E_rule (α := Nat) (fun i tm h' => Gr h h' ∧ i ≤ n ∧ firstIx p n 0 = firstIx p (n - i) i ∧ tm.get 8 = some (.i .i64 (i : Int))) (fun i => n - i)
    (fun e tm h' => Gr h h' ∧ ((e = .ret ∧ tm.get 4 = some (.i .i64 (firstIx p n 0)) ∧ 0 ≤ firstIx p n 0) ∨ (e = .exit 0 ∧ firstIx p n 0 = -1))) (by rfl) ?_ 0 tm h ⟨Gr.refl ok, by omega, rfl, h8⟩ (AlB.refl _ _)
  rintro i tm' h' ⟨gr, hi, hf, g8⟩ al
  have g0 := (al 0 (by rfl)).trans h0
  have g1 := (al 1 (by rfl)).trans h1
  have g7 := (al 7 (by rfl)).trans h7
  by_cases hlt : i < n
  · obtain ⟨id, o, x, hx, hia, hat⟩ := hs.ia1 (k := .i64) hlt
    have hat := gr.at hat
    have hlc : i < cs.length := by rw [hs.1]; omega
    have hxe : cs[i] = x := by rw [List.getElem?_eq_getElem hlc] at hx; exact Option.some.inj hx
    have hfi : firstIx p (n - i) i = if p i then (i : Int) else firstIx p (n - (i + 1)) (i + 1) := by
      have : n - i = (n - (i + 1)) + 1 := by omega
      rw [this]; rfl
    have hcall := hp i hlc h' gr
    rw [hxe] at hcall
    simp (maxSteps := 10000000) (implicitDefEqProofs := false) (disch := first | omega | (simp only [add_nx, set_nx, kill_nx, bump_nx]; omega)) only [go_sem, get_set, ↓reduceIte, Nat.reduceEqDiff, Nat.reduceAdd, Nat.reduceSub, Nat.reduceMul, Nat.reduceMod, Nat.reduceDiv, Nat.reduceLT, Nat.reduceLeDiff, reduceCtorEq, decide_true, decide_false, Bool.false_eq_true, true_and, and_true, eq_self, Nat.zero_add, Nat.add_zero, Nat.mul_one, Nat.zero_mul, Nat.sub_zero, List.drop_zero, List.nil_append, List.append_nil, List.cons_append, Nat.zero_le, wrap64_nat, wrap64_int, wrap8u_lt, wrap32u_lt, wrap64u_lt, subI_nat, ixs_at, slcS_at, ia_sl, ia_ar, hadd_eq, hadd_ne, hset_eq, hset_ne, hkill_ne, at_add_same, at_add_ne, at_set_same, at_set_ne, at_kill_ne, mks_ok, bin_s_add, l81_0, g0, g1, g7, g8, hlt, hia, hat]
    refine hcall.mono ?_
    rintro v1 h1 ⟨rfl, gr1⟩
    cases hpi : p i
    · rw [hpi] at hfi
      simp (maxSteps := 10000000) (implicitDefEqProofs := false) (disch := first | omega | (simp only [add_nx, set_nx, kill_nx, bump_nx]; omega)) only [go_sem, get_set, ↓reduceIte, Nat.reduceEqDiff, Nat.reduceAdd, Nat.reduceSub, Nat.reduceMul, Nat.reduceMod, Nat.reduceDiv, Nat.reduceLT, Nat.reduceLeDiff, reduceCtorEq, decide_true, decide_false, Bool.false_eq_true, true_and, and_true, eq_self, Nat.zero_add, Nat.add_zero, Nat.mul_one, Nat.zero_mul, Nat.sub_zero, List.drop_zero, List.nil_append, List.append_nil, List.cons_append, Nat.zero_le, wrap64_nat, wrap64_int, wrap8u_lt, wrap32u_lt, wrap64u_lt, subI_nat, ixs_at, slcS_at, ia_sl, ia_ar, hadd_eq, hadd_ne, hset_eq, hset_ne, hkill_ne, at_add_same, at_add_ne, at_set_same, at_set_ne, at_kill_ne, mks_ok, bin_s_add, g8]
      exact ⟨i + 1, by omega, gr.trans gr1, by omega, by rw [hf, hfi]; rfl, rfl⟩
    · rw [hpi] at hfi
      rw [if_pos rfl] at hfi
      simp (maxSteps := 10000000) (implicitDefEqProofs := false) (disch := first | omega | (simp only [add_nx, set_nx, kill_nx, bump_nx]; omega)) only [go_sem, get_set, ↓reduceIte, Nat.reduceEqDiff, Nat.reduceAdd, Nat.reduceSub, Nat.reduceMul, Nat.reduceMod, Nat.reduceDiv, Nat.reduceLT, Nat.reduceLeDiff, reduceCtorEq, decide_true, decide_false, Bool.false_eq_true, true_and, and_true, eq_self, Nat.zero_add, Nat.add_zero, Nat.mul_one, Nat.zero_mul, Nat.sub_zero, List.drop_zero, List.nil_append, List.append_nil, List.cons_append, Nat.zero_le, wrap64_nat, wrap64_int, wrap8u_lt, wrap32u_lt, wrap64u_lt, subI_nat, ixs_at, slcS_at, ia_sl, ia_ar, hadd_eq, hadd_ne, hset_eq, hset_ne, hkill_ne, at_add_same, at_add_ne, at_set_same, at_set_ne, at_kill_ne, mks_ok, bin_s_add]
      refine ⟨gr.trans gr1, .inl ?_⟩
      rw [hf, hfi]
      exact ⟨rfl, by omega⟩
  · have : n - i = 0 := by omega
    rw [this] at hf
    simp (maxSteps := 10000000) (implicitDefEqProofs := false) (disch := first | omega | (simp only [add_nx, set_nx, kill_nx, bump_nx]; omega)) only [go_sem, get_set, ↓reduceIte, Nat.reduceEqDiff, Nat.reduceAdd, Nat.reduceSub, Nat.reduceMul, Nat.reduceMod, Nat.reduceDiv, Nat.reduceLT, Nat.reduceLeDiff, reduceCtorEq, decide_true, decide_false, Bool.false_eq_true, true_and, and_true, eq_self, Nat.zero_add, Nat.add_zero, Nat.mul_one, Nat.zero_mul, Nat.sub_zero, List.drop_zero, List.nil_append, List.append_nil, List.cons_append, Nat.zero_le, wrap64_nat, wrap64_int, wrap8u_lt, wrap32u_lt, wrap64u_lt, subI_nat, ixs_at, slcS_at, ia_sl, ia_ar, hadd_eq, hadd_ne, hset_eq, hset_ne, hkill_ne, at_add_same, at_add_ne, at_set_same, at_set_ne, at_kill_ne, mks_ok, bin_s_add, l81_0, g7, g8, hlt]
    exact ⟨gr, .inr hf⟩

theorem indexFunc81 (h : Hp) (ok : h.Ok) (v : V) (n g : Nat) (cs : List V) (p : Nat → Bool) (hs : IsSl h 1 v n cs) (hn : n ≤ 1099511627776)
    (hp : ∀ i (hi : i < cs.length) h', Gr h h' → Yv (E (.call g [cs[i]] h')) fun v h'' => v = .b (p i) ∧ Gr h' h'') :
    Yv (E (.call 81 [v, .fn g [] []] h)) fun v' h' => v' = .i .i64 (firstIx p n 0) ∧ Gr h h' := by
  rw [e81]
  have gl := hs.len
  simp (maxSteps := 10000000) (implicitDefEqProofs := false) (disch := first | omega | (simp only [add_nx, set_nx, kill_nx, bump_nx]; omega)) only [go_sem, get_set, ↓reduceIte, Nat.reduceEqDiff, Nat.reduceAdd, Nat.reduceSub, Nat.reduceMul, Nat.reduceMod, Nat.reduceDiv, Nat.reduceLT, Nat.reduceLeDiff, reduceCtorEq, decide_true, decide_false, Bool.false_eq_true, true_and, and_true, eq_self, Nat.zero_add, Nat.add_zero, Nat.mul_one, Nat.zero_mul, Nat.sub_zero, List.drop_zero, List.nil_append, List.append_nil, List.cons_append, Nat.zero_le, wrap64_nat, wrap64_int, wrap8u_lt, wrap32u_lt, wrap64u_lt, subI_nat, ixs_at, slcS_at, ia_sl, ia_ar, hadd_eq, hadd_ne, hset_eq, hset_ne, hkill_ne, at_add_same, at_add_ne, at_set_same, at_set_ne, at_kill_ne, mks_ok, bin_s_add, b81, gl]
  refine (findLoop h ok _ v n g cs p hs hn hp (by simp (maxSteps := 10000000) (implicitDefEqProofs := false) only [go_sem, get_set, ↓reduceIte, Nat.reduceEqDiff, Nat.reduceAdd, Nat.reduceSub, Nat.reduceMul, Nat.reduceMod, Nat.reduceDiv, Nat.reduceLT, Nat.reduceLeDiff, reduceCtorEq, decide_true, decide_false, Bool.false_eq_true, true_and, and_true, eq_self, Nat.zero_add, Nat.add_zero, Nat.mul_one, Nat.zero_mul, Nat.sub_zero, List.drop_zero, List.nil_append, List.append_nil, List.cons_append, Nat.zero_le]) (by simp (maxSteps := 10000000) (implicitDefEqProofs := false) only [go_sem, get_set, ↓reduceIte, Nat.reduceEqDiff, Nat.reduceAdd, Nat.reduceSub, Nat.reduceMul, Nat.reduceMod, Nat.reduceDiv, Nat.reduceLT, Nat.reduceLeDiff, reduceCtorEq, decide_true, decide_false, Bool.false_eq_true, true_and, and_true, eq_self, Nat.zero_add, Nat.add_zero, Nat.mul_one, Nat.zero_mul, Nat.sub_zero, List.drop_zero, List.nil_append, List.append_nil, List.cons_append, Nat.zero_le]) (by simp (maxSteps := 10000000) (implicitDefEqProofs := false) only [go_sem, get_set, ↓reduceIte, Nat.reduceEqDiff, Nat.reduceAdd, Nat.reduceSub, Nat.reduceMul, Nat.reduceMod, Nat.reduceDiv, Nat.reduceLT, Nat.reduceLeDiff, reduceCtorEq, decide_true, decide_false, Bool.false_eq_true, true_and, and_true, eq_self, Nat.zero_add, Nat.add_zero, Nat.mul_one, Nat.zero_mul, Nat.sub_zero, List.drop_zero, List.nil_append, List.append_nil, List.cons_append, Nat.zero_le]) (by simp (maxSteps := 10000000) (implicitDefEqProofs := false) only [go_sem, get_set, ↓reduceIte, Nat.reduceEqDiff, Nat.reduceAdd, Nat.reduceSub, Nat.reduceMul, Nat.reduceMod, Nat.reduceDiv, Nat.reduceLT, Nat.reduceLeDiff, reduceCtorEq, decide_true, decide_false, Bool.false_eq_true, true_and, and_true, eq_self, Nat.zero_add, Nat.add_zero, Nat.mul_one, Nat.zero_mul, Nat.sub_zero, List.drop_zero, List.nil_append, List.append_nil, List.cons_append, Nat.zero_le])).mono ?_
  rintro e ⟨tm, df, h'⟩ ⟨rfl, al, gr, ⟨rfl, g4, _⟩ | ⟨rfl, hf⟩⟩
  · dsimp only at g4 gr
    simp (maxSteps := 10000000) (implicitDefEqProofs := false) (disch := first | omega | (simp only [add_nx, set_nx, kill_nx, bump_nx]; omega)) only [go_sem, get_set, ↓reduceIte, Nat.reduceEqDiff, Nat.reduceAdd, Nat.reduceSub, Nat.reduceMul, Nat.reduceMod, Nat.reduceDiv, Nat.reduceLT, Nat.reduceLeDiff, reduceCtorEq, decide_true, decide_false, Bool.false_eq_true, true_and, and_true, eq_self, Nat.zero_add, Nat.add_zero, Nat.mul_one, Nat.zero_mul, Nat.sub_zero, List.drop_zero, List.nil_append, List.append_nil, List.cons_append, Nat.zero_le, wrap64_nat, wrap64_int, wrap8u_lt, wrap32u_lt, wrap64u_lt, subI_nat, ixs_at, slcS_at, ia_sl, ia_ar, hadd_eq, hadd_ne, hset_eq, hset_ne, hkill_ne, at_add_same, at_add_ne, at_set_same, at_set_ne, at_kill_ne, mks_ok, bin_s_add, g4]
    exact gr
  · dsimp only at gr
    simp (maxSteps := 10000000) (implicitDefEqProofs := false) (disch := first | omega | (simp only [add_nx, set_nx, kill_nx, bump_nx]; omega)) only [go_sem, get_set, ↓reduceIte, Nat.reduceEqDiff, Nat.reduceAdd, Nat.reduceSub, Nat.reduceMul, Nat.reduceMod, Nat.reduceDiv, Nat.reduceLT, Nat.reduceLeDiff, reduceCtorEq, decide_true, decide_false, Bool.false_eq_true, true_and, and_true, eq_self, Nat.zero_add, Nat.add_zero, Nat.mul_one, Nat.zero_mul, Nat.sub_zero, List.drop_zero, List.nil_append, List.append_nil, List.cons_append, Nat.zero_le, wrap64_nat, wrap64_int, wrap8u_lt, wrap32u_lt, wrap64u_lt, subI_nat, ixs_at, slcS_at, ia_sl, ia_ar, hadd_eq, hadd_ne, hset_eq, hset_ne, hkill_ne, at_add_same, at_add_ne, at_set_same, at_set_ne, at_kill_ne, mks_ok, bin_s_add]
    rw [hf]; exact ⟨rfl, gr⟩
theorem indexFunc118 (h : Hp) (ok : h.Ok) (v : V) (n g : Nat) (cs : List V) (p : Nat → Bool) (hs : IsSl h 1 v n cs) (hn : n ≤ 1099511627776)
    (hp : ∀ i (hi : i < cs.length) h', Gr h h' → Yv (E (.call g [cs[i]] h')) fun v h'' => v = .b (p i) ∧ Gr h' h'') :
    Yv (E (.call 118 [v, .fn g [] []] h)) fun v' h' => v' = .i .i64 (firstIx p n 0) ∧ Gr h h' := by
  have := indexFunc81 h ok v n g cs p hs hn hp
  rw [e81] at this
  rw [e118]; exact this
theorem indexFunc119 (h : Hp) (ok : h.Ok) (v : V) (n g : Nat) (cs : List V) (p : Nat → Bool) (hs : IsSl h 1 v n cs) (hn : n ≤ 1099511627776)
    (hp : ∀ i (hi : i < cs.length) h', Gr h h' → Yv (E (.call g [cs[i]] h')) fun v h'' => v = .b (p i) ∧ Gr h' h'') :
    Yv (E (.call 119 [v, .fn g [] []] h)) fun v' h' => v' = .i .i64 (firstIx p n 0) ∧ Gr h h' := by
  have := indexFunc81 h ok v n g cs p hs hn hp
  rw [e81] at this
  rw [e119]; exact this
/-- Does p hold somewhere below n? -/
def anyB (p : Nat → Bool) (n : Nat) : Bool := (List.range n).any p
theorem anyB_eq (p : Nat → Bool) (n : Nat) : (!decide (firstIx p n 0 < ((0 : Nat) : Int))) = anyB p n := by
  rw [Bool.eq_iff_iff]
  have := firstIx_ge p n 0
  rw [eq_iff_iff] at this
  simp only [Bool.not_eq_true', decide_eq_false_iff_not, Int.not_lt]
  rw [show (((0 : Nat) : Int) ≤ firstIx p n 0) = (0 ≤ firstIx p n 0) from rfl, this]
  simp [anyB]
theorem containsFunc52 (h : Hp) (ok : h.Ok) (v : V) (n g : Nat) (cs : List V) (p : Nat → Bool) (hs : IsSl h 1 v n cs) (hn : n ≤ 1099511627776)
    (hp : ∀ i (hi : i < cs.length) h', Gr h h' → Yv (E (.call g [cs[i]] h')) fun v h'' => v = .b (p i) ∧ Gr h' h'') :
    Yv (E (.call 52 [v, .fn g [] []] h)) fun v' h' => v' = .b (anyB p n) ∧ Gr h h' := by
  rw [e52]
  simp (maxSteps := 10000000) (implicitDefEqProofs := false) (disch := first | omega | (simp only [add_nx, set_nx, kill_nx, bump_nx]; omega)) only [go_sem, get_set, ↓reduceIte, Nat.reduceEqDiff, Nat.reduceAdd, Nat.reduceSub, Nat.reduceMul, Nat.reduceMod, Nat.reduceDiv, Nat.reduceLT, Nat.reduceLeDiff, reduceCtorEq, decide_true, decide_false, Bool.false_eq_true, true_and, and_true, eq_self, Nat.zero_add, Nat.add_zero, Nat.mul_one, Nat.zero_mul, Nat.sub_zero, List.drop_zero, List.nil_append, List.append_nil, List.cons_append, Nat.zero_le, wrap64_nat, wrap64_int, wrap8u_lt, wrap32u_lt, wrap64u_lt, subI_nat, ixs_at, slcS_at, ia_sl, ia_ar, hadd_eq, hadd_ne, hset_eq, hset_ne, hkill_ne, at_add_same, at_add_ne, at_set_same, at_set_ne, at_kill_ne, mks_ok, bin_s_add, b52]
  refine (indexFunc81 h ok v n g cs p hs hn hp).mono ?_
  rintro v' h' ⟨rfl, gr⟩
  simp (maxSteps := 10000000) (implicitDefEqProofs := false) only [go_sem, get_set, ↓reduceIte, Nat.reduceEqDiff, Nat.reduceAdd, Nat.reduceSub, Nat.reduceMul, Nat.reduceMod, Nat.reduceDiv, Nat.reduceLT, Nat.reduceLeDiff, reduceCtorEq, decide_true, decide_false, Bool.false_eq_true, true_and, and_true, eq_self, Nat.zero_add, Nat.add_zero, Nat.mul_one, Nat.zero_mul, Nat.sub_zero, List.drop_zero, List.nil_append, List.append_nil, List.cons_append, Nat.zero_le, anyB_eq]
  exact gr
theorem containsFunc91 (h : Hp) (ok : h.Ok) (v : V) (n g : Nat) (cs : List V) (p : Nat → Bool) (hs : IsSl h 1 v n cs) (hn : n ≤ 1099511627776)
    (hp : ∀ i (hi : i < cs.length) h', Gr h h' → Yv (E (.call g [cs[i]] h')) fun v h'' => v = .b (p i) ∧ Gr h' h'') :
    Yv (E (.call 91 [v, .fn g [] []] h)) fun v' h' => v' = .b (anyB p n) ∧ Gr h h' := by
  rw [e91]
  simp (maxSteps := 10000000) (implicitDefEqProofs := false) (disch := first | omega | (simp only [add_nx, set_nx, kill_nx, bump_nx]; omega)) only [go_sem, get_set, ↓reduceIte, Nat.reduceEqDiff, Nat.reduceAdd, Nat.reduceSub, Nat.reduceMul, Nat.reduceMod, Nat.reduceDiv, Nat.reduceLT, Nat.reduceLeDiff, reduceCtorEq, decide_true, decide_false, Bool.false_eq_true, true_and, and_true, eq_self, Nat.zero_add, Nat.add_zero, Nat.mul_one, Nat.zero_mul, Nat.sub_zero, List.drop_zero, List.nil_append, List.append_nil, List.cons_append, Nat.zero_le, wrap64_nat, wrap64_int, wrap8u_lt, wrap32u_lt, wrap64u_lt, subI_nat, ixs_at, slcS_at, ia_sl, ia_ar, hadd_eq, hadd_ne, hset_eq, hset_ne, hkill_ne, at_add_same, at_add_ne, at_set_same, at_set_ne, at_kill_ne, mks_ok, bin_s_add, b91]
  refine (indexFunc118 h ok v n g cs p hs hn hp).mono ?_
  rintro v' h' ⟨rfl, gr⟩
  simp (maxSteps := 10000000) (implicitDefEqProofs := false) only [go_sem, get_set, ↓reduceIte, Nat.reduceEqDiff, Nat.reduceAdd, Nat.reduceSub, Nat.reduceMul, Nat.reduceMod, Nat.reduceDiv, Nat.reduceLT, Nat.reduceLeDiff, reduceCtorEq, decide_true, decide_false, Bool.false_eq_true, true_and, and_true, eq_self, Nat.zero_add, Nat.add_zero, Nat.mul_one, Nat.zero_mul, Nat.sub_zero, List.drop_zero, List.nil_append, List.append_nil, List.cons_append, Nat.zero_le, anyB_eq]
  exact gr
theorem containsFunc93 (h : Hp) (ok : h.Ok) (v : V) (n g : Nat) (cs : List V) (p : Nat → Bool) (hs : IsSl h 1 v n cs) (hn : n ≤ 1099511627776)
    (hp : ∀ i (hi : i < cs.length) h', Gr h h' → Yv (E (.call g [cs[i]] h')) fun v h'' => v = .b (p i) ∧ Gr h' h'') :
    Yv (E (.call 93 [v, .fn g [] []] h)) fun v' h' => v' = .b (anyB p n) ∧ Gr h h' := by
  rw [e93]
  simp (maxSteps := 10000000) (implicitDefEqProofs := false) (disch := first | omega | (simp only [add_nx, set_nx, kill_nx, bump_nx]; omega)) only [go_sem, get_set, ↓reduceIte, Nat.reduceEqDiff, Nat.reduceAdd, Nat.reduceSub, Nat.reduceMul, Nat.reduceMod, Nat.reduceDiv, Nat.reduceLT, Nat.reduceLeDiff, reduceCtorEq, decide_true, decide_false, Bool.false_eq_true, true_and, and_true, eq_self, Nat.zero_add, Nat.add_zero, Nat.mul_one, Nat.zero_mul, Nat.sub_zero, List.drop_zero, List.nil_append, List.append_nil, List.cons_append, Nat.zero_le, wrap64_nat, wrap64_int, wrap8u_lt, wrap32u_lt, wrap64u_lt, subI_nat, ixs_at, slcS_at, ia_sl, ia_ar, hadd_eq, hadd_ne, hset_eq, hset_ne, hkill_ne, at_add_same, at_add_ne, at_set_same, at_set_ne, at_kill_ne, mks_ok, bin_s_add, b93]
  refine (indexFunc119 h ok v n g cs p hs hn hp).mono ?_
  rintro v' h' ⟨rfl, gr⟩
  simp (maxSteps := 10000000) (implicitDefEqProofs := false) only [go_sem, get_set, ↓reduceIte, Nat.reduceEqDiff, Nat.reduceAdd, Nat.reduceSub, Nat.reduceMul, Nat.reduceMod, Nat.reduceDiv, Nat.reduceLT, Nat.reduceLeDiff, reduceCtorEq, decide_true, decide_false, Bool.false_eq_true, true_and, and_true, eq_self, Nat.zero_add, Nat.add_zero, Nat.mul_one, Nat.zero_mul, Nat.sub_zero, List.drop_zero, List.nil_append, List.append_nil, List.cons_append, Nat.zero_le, anyB_eq]
  exact gr
end Go.Proofs.YtgnpoaoekhplhaaGreatDoor.AE.Tst
