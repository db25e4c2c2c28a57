/- A part of the proof that croupierlaw11.ModelKnown returns true (its last text says so). No condition of its own. -/
import Derived.Test.YtgnpoaoekhplhaaGreatDoorPb
set_option linter.unusedVariables false
set_option linter.unusedSimpArgs false
set_option linter.unusedSectionVars false
set_option linter.unusedVariables false
set_option linter.unusedSimpArgs false
namespace Go.Proofs.YtgnpoaoekhplhaaGreatDoor.AE.Tst
open Go Go.Proofs.YtgnpoaoekhplhaaGreatDoor.AE Go.Proofs.YtgnpoaoekhplhaaGreatDoor.AE.Sim

/-! ### Heaps that grow, but for one block -/
structure GrC (C : Nat) (h h' : Hp) : Prop where
  ok : h'.Ok
  keep : ∀ id o, id ≠ C → h.get id = some o → h'.get id = some o
  nx : h.nx ≤ h'.nx
  old : h.Ok
theorem GrC.refl {C : Nat} {h : Hp} (ok : h.Ok) : GrC C h h := ⟨ok, fun _ _ _ e => e, Nat.le_refl _, ok⟩
theorem GrC.of {C : Nat} {h h' : Hp} (g : Gr h h') : GrC C h h' := ⟨g.ok, fun id o _ e => g.keep id o e, g.nx, g.old⟩
theorem GrC.trans {C : Nat} {a b c : Hp} (x : GrC C a b) (y : GrC C b c) : GrC C a c := ⟨y.ok, fun id o n e => y.keep id o n (x.keep id o n e), Nat.le_trans x.nx y.nx, x.old⟩
theorem GrC.setC {C : Nat} {h h' : Hp} (g : GrC C h h') (hl : C < h'.nx) (o : O) : GrC C h (h'.set C o) :=
  ⟨g.ok.set hl o, fun id o' n e => by rw [hset_ne _ _ n]; exact g.keep id o' n e, g.nx, g.old⟩
theorem GrC.base {C : Nat} {a h h' : Hp} (g : Gr a h) (hC : a.nx ≤ C) (x : GrC C h h') : Gr a h' :=
  ⟨x.ok, fun id o e => x.keep id o (by have := g.old.lt e; omega) (g.keep id o e), Nat.le_trans g.nx x.nx, g.old⟩

/-! ### spread -/
def spr (n : Nat) : Int → Nat → List Br → Option Nat
  | _, p, [] => some p
  | last, p, b :: l =>
    if b.to ≤ last ∨ (n : Int) ≤ b.to ∨ (smallP b.p).2.2 = false ∨ (smallP b.p).1 < 1 then none
    else if p / Nat.gcd (smallP b.p).2.1 p * (smallP b.p).2.1 ≤ 9999 then spr n b.to (p / Nat.gcd (smallP b.p).2.1 p * (smallP b.p).2.1) l else none
def sumB (p : Nat) (l : List Br) : Int := (l.map fun b => (smallP b.p).1 * ((p / (smallP b.p).2.1 : Nat) : Int)).sum
def spreadP (n p : Nat) (l : List Br) : Option Nat := match spr n (-1) p l with
  | some p' => if sumB p' l = (p' : Int) then some p' else none
  | none => none
/-- The choices of a list of branches are all short. -/
theorem spr_le {n : Nat} : ∀ {l : List Br} {last : Int} {p p' : Nat}, p ≤ 9999 → spr n last p l = some p' → p' ≤ 9999
  | [], last, p, p', hp, e => by cases e; exact hp
  | b :: l, last, p, p', hp, e => by
    simp only [spr] at e
    split at e
    · cases e
    · split at e
      · next h => exact spr_le h e
      · cases e
theorem spr_small {n : Nat} : ∀ {l : List Br} {last : Int} {p p' : Nat}, spr n last p l = some p' → ∀ b ∈ l, (smallP b.p).2.2 = true ∧ 1 ≤ (smallP b.p).1
  | [], _, _, _, _, b, hb => by simp at hb
  | b :: l, last, p, p', e, x, hx => by
    simp only [spr] at e
    split at e
    · cases e
    · next hc =>
      split at e
      · next h =>
        rcases List.mem_cons.1 hx with rfl | hx
        · exact ⟨by cases hh : (smallP x.p).2.2 with
            | true => rfl
            | false => exact absurd (.inr (.inr (.inl hh))) hc, by
            by_cases h1 : (smallP x.p).1 < 1
            · exact absurd (.inr (.inr (.inr h1))) hc
            · omega⟩
        · exact spr_small e x hx
      · cases e
theorem sumB_app (p : Nat) (a b : List Br) : sumB p (a ++ b) = sumB p a + sumB p b := by simp [sumB]

theorem spread1 {h0 h : Hp} (gr : Gr h0 h) (hl0 : laidB h0 L11 = true) (C : Nat) (hC : h0.nx ≤ C) (o c : V) (P : Nat) (G : Int) (n : Nat) (ck : CkR h C o c (P : Int) G) (hP1 : 1 ≤ P) (hP : P ≤ 9999)
    (l : List Br) (nv : V) (hn : NextR h0 nv l) (hol : lenV false (some o) = some (.i .i64 (n : Int))) (hln : l.length ≤ 1048576) (hsm : ∀ b ∈ l, SmallAt b.p)
    (tm : Tm) (t0 : tm.get 0 = some (.p C 0)) (t17 : tm.get 17 = some nv) (t18 : tm.get 18 = some (.i .i64 ((l.length : Nat) : Int))) (t19 : tm.get 19 = some (.i .i64 ((0 : Nat) : Int))) (t5 : tm.get 5 = some (.i .i64 (-1))) :
    Yc (E (.loop none l97_0 ⟨tm, [], h⟩)) fun e st => st.df = [] ∧ AlB (wrs l97_0) tm st.tm ∧ GrC C h st.h ∧
      ((e = .exit 0 ∧ ∃ P', spr n (-1) P l = some P' ∧ CkR st.h C o c (P' : Int) G) ∨ (e = .ret ∧ st.tm.get 4 = some (.b false) ∧ spr n (-1) P l = none ∧ ∃ P', CkR st.h C o c P' G)) := by
  refine E_rule (α := Nat × Int × Nat) (fun x tm h' => x.1 ≤ l.length ∧ x.2.2 ≤ 9999 ∧ 1 ≤ x.2.2 ∧ GrC C h h' ∧ CkR h' C o c (x.2.2 : Int) G ∧ spr n (-1) P l = spr n x.2.1 x.2.2 (l.drop x.1) ∧ tm.get 19 = some (.i .i64 (x.1 : Int)) ∧ tm.get 5 = some (.i .i64 x.2.1)) (fun x => l.length - x.1)
    (fun e tm h' => GrC C h h' ∧ ((e = .exit 0 ∧ ∃ P', spr n (-1) P l = some P' ∧ CkR h' C o c (P' : Int) G) ∨ (e = .ret ∧ tm.get 4 = some (.b false) ∧ spr n (-1) P l = none ∧ ∃ P', CkR h' C o c P' G))) (by rfl) ?_ (0, -1, P) tm h ⟨by omega, hP, hP1, GrC.refl gr.ok, ck, rfl, t19, t5⟩ (AlB.refl _ _)
  rintro ⟨k, last, q⟩ tm' h' ⟨hk, hq, hq1, gc, ck', hs, g19, g5⟩ al
  dsimp only at hk hq hq1 ck' hs g19 g5
  have g0 := (al 0 (by rfl)).trans t0
  have g17 := (al 17 (by rfl)).trans t17
  have g18 := (al 18 (by rfl)).trans t18
  have grb := gc.base gr hC
  by_cases hlt : k < l.length
  · obtain ⟨id, off, xs, a1, a2, rfl, a4⟩ := hn.ia (k := .i64) hlt
    have hld : ldV (some 2) (some (.p id off)) h' = some (.ag [.i .i64 (l[k]).to, .s (l[k]).p]) := ld_cells rfl (by omega) (fun i hi => grb.at (a4 i hi))
    rw [ldn_eq] at hld
    rw [List.drop_eq_getElem_cons hlt] at hs
    have hsk := hsm _ (List.getElem_mem hlt)
    generalize l[k] = b at *
    have hv := ((Gr.refl gc.ok).add (.c [.i .i64 ((0 : Nat) : Int), .s []] 24 none false false 0)).set (j := h'.nx) (Nat.le_refl _) (Nat.lt_succ_self _) (.c [.i .i64 b.to, .s b.p] 24 none false false 0)
    have key := hsk _ hv.ok ((grb.trans hv).laid hl0)
    simp (maxSteps := 10000000) (implicitDefEqProofs := false) (disch := first | omega | (simp only [add_nx, set_nx, kill_nx, bump_nx]; omega)) only [go_sem, get_set, ↓reduceIte, Nat.reduceEqDiff, Nat.reduceAdd, Nat.reduceSub, Nat.reduceMul, Nat.reduceMod, Nat.reduceDiv, Nat.reduceLT, Nat.reduceLeDiff, reduceCtorEq, decide_true, decide_false, Bool.false_eq_true, true_and, and_true, eq_self, Nat.zero_add, Nat.add_zero, Nat.mul_one, Nat.zero_mul, Nat.sub_zero, List.drop_zero, List.nil_append, List.append_nil, List.cons_append, Nat.zero_le, wrap64_nat, wrap64_int, wrap8u_lt, wrap32u_lt, wrap64u_lt, subI_nat, ixs_at, slcS_at, ia_sl, ia_ar, hadd_eq, hadd_ne, hset_eq, hset_ne, hkill_ne, at_add_same, at_add_ne, at_set_same, at_set_ne, at_kill_ne, mks_ok, bin_s_add, l97_0, g0, g17, g18, g19, hlt, a1, hld]
    refine key.mono ?_
    rintro v h2 ⟨rfl, gr2⟩
    have ck2 := gr2.keep _ _ (hv.keep _ _ ck')
    obtain ⟨c0, c1, c2, c3⟩ := ckR_at (h := h2) ck2
    have hvar := gr2.keep _ _ (hset_same _ h'.nx (.c [.i .i64 b.to, .s b.p] 24 none false false 0))
    have v0 : h2.at h'.nx 0 = some (.i .i64 b.to) := by rw [at_of hvar]; rfl
    have gc2 := gc.trans (GrC.of (hv.trans gr2))
    have hCl := gc2.ok.lt ck2
    have hCl' := gc.ok.lt ck'
    have hsb := small_bounds (q := b.p)
    have es : spr n last q (b :: l.drop (k + 1)) = if b.to ≤ last ∨ (n : Int) ≤ b.to ∨ (smallP b.p).2.2 = false ∨ (smallP b.p).1 < 1 then none
      else if q / Nat.gcd (smallP b.p).2.1 q * (smallP b.p).2.1 ≤ 9999 then spr n b.to (q / Nat.gcd (smallP b.p).2.1 q * (smallP b.p).2.1) (l.drop (k + 1)) else none := rfl
    rw [es] at hs
    clear es
    generalize smallP b.p = sp at *
    obtain ⟨num, den, isn⟩ := sp
    dsimp only at hs hsb
    dsimp only
    by_cases x1 : last < b.to
    · by_cases x2 : b.to < (n : Int)
      · cases isn
        · rw [if_pos (.inr (.inr (.inl rfl)))] at hs
          simp (maxSteps := 10000000) (implicitDefEqProofs := false) (disch := first | omega | (simp only [add_nx, set_nx, kill_nx, bump_nx]; omega)) only [go_sem, get_set, ↓reduceIte, Nat.reduceEqDiff, Nat.reduceAdd, Nat.reduceSub, Nat.reduceMul, Nat.reduceMod, Nat.reduceDiv, Nat.reduceLT, Nat.reduceLeDiff, reduceCtorEq, decide_true, decide_false, Bool.false_eq_true, true_and, and_true, eq_self, Nat.zero_add, Nat.add_zero, Nat.mul_one, Nat.zero_mul, Nat.sub_zero, List.drop_zero, List.nil_append, List.append_nil, List.cons_append, Nat.zero_le, wrap64_nat, wrap64_int, wrap8u_lt, wrap32u_lt, wrap64u_lt, subI_nat, ixs_at, slcS_at, ia_sl, ia_ar, hadd_eq, hadd_ne, hset_eq, hset_ne, hkill_ne, at_add_same, at_add_ne, at_set_same, at_set_ne, at_kill_ne, mks_ok, bin_s_add, g0, g5, v0, c0, hol, x1, x2]
          exact ⟨gc2, .inr ⟨hs, _, ck2⟩⟩
        · obtain ⟨d1, d2, n1, n2⟩ := hsb rfl
          by_cases x4 : num < ((1 : Nat) : Int)
          · rw [if_pos (.inr (.inr (.inr (by omega))))] at hs
            simp (maxSteps := 10000000) (implicitDefEqProofs := false) (disch := first | omega | (simp only [add_nx, set_nx, kill_nx, bump_nx]; omega)) only [go_sem, get_set, ↓reduceIte, Nat.reduceEqDiff, Nat.reduceAdd, Nat.reduceSub, Nat.reduceMul, Nat.reduceMod, Nat.reduceDiv, Nat.reduceLT, Nat.reduceLeDiff, reduceCtorEq, decide_true, decide_false, Bool.false_eq_true, true_and, and_true, eq_self, Nat.zero_add, Nat.add_zero, Nat.mul_one, Nat.zero_mul, Nat.sub_zero, List.drop_zero, List.nil_append, List.append_nil, List.cons_append, Nat.zero_le, wrap64_nat, wrap64_int, wrap8u_lt, wrap32u_lt, wrap64u_lt, subI_nat, ixs_at, slcS_at, ia_sl, ia_ar, hadd_eq, hadd_ne, hset_eq, hset_ne, hkill_ne, at_add_same, at_add_ne, at_set_same, at_set_ne, at_kill_ne, mks_ok, bin_s_add, g0, g5, v0, c0, hol, x1, x2, x4]
            exact ⟨gc2, .inr ⟨hs, _, ck2⟩⟩
          · rw [if_neg (by rintro (h1 | h1 | h1 | h1) <;> first | omega | cases h1)] at hs
            have hme := meet_ok h2 C 2 _ 86 q den ck2 rfl hq d1 d2
            have hpos : 1 ≤ q / Nat.gcd den q * den := by
              have h1 : Nat.gcd den q ≤ q := Nat.gcd_le_right _ (by omega)
              have h2 : 0 < Nat.gcd den q := Nat.gcd_pos_of_pos_left _ (by omega)
              have h3 : 1 ≤ q / Nat.gcd den q := (Nat.one_le_div_iff h2).2 h1
              exact Nat.le_trans h3 (Nat.le_mul_of_pos_right _ (by omega))
            have ck3 : CkR (h2.set C (.c ([o, c, .i .i64 ((q : Nat) : Int), .i .i64 G].set 2 (.i .i64 ((q / Nat.gcd den q * den : Nat) : Int))) 86 none false false 0)) C o c ((q / Nat.gcd den q * den : Nat) : Int) G := hset_same _ _ _
            have gc3 := gc2.setC hCl (.c ([o, c, .i .i64 ((q : Nat) : Int), .i .i64 G].set 2 (.i .i64 ((q / Nat.gcd den q * den : Nat) : Int))) 86 none false false 0)
            generalize q / Nat.gcd den q * den = q' at *
            by_cases x5 : q' ≤ 9999
            · rw [if_pos x5] at hs
              simp (maxSteps := 10000000) (implicitDefEqProofs := false) (disch := first | omega | (simp only [add_nx, set_nx, kill_nx, bump_nx]; omega)) only [go_sem, get_set, ↓reduceIte, Nat.reduceEqDiff, Nat.reduceAdd, Nat.reduceSub, Nat.reduceMul, Nat.reduceMod, Nat.reduceDiv, Nat.reduceLT, Nat.reduceLeDiff, reduceCtorEq, decide_true, decide_false, Bool.false_eq_true, true_and, and_true, eq_self, Nat.zero_add, Nat.add_zero, Nat.mul_one, Nat.zero_mul, Nat.sub_zero, List.drop_zero, List.nil_append, List.append_nil, List.cons_append, Nat.zero_le, wrap64_nat, wrap64_int, wrap8u_lt, wrap32u_lt, wrap64u_lt, subI_nat, ixs_at, slcS_at, ia_sl, ia_ar, hadd_eq, hadd_ne, hset_eq, hset_ne, hkill_ne, at_add_same, at_add_ne, at_set_same, at_set_ne, at_kill_ne, mks_ok, bin_s_add, g0, g5, v0, c0, hol, x1, x2, x4, hme, x5, g19]
              exact ⟨(k + 1, b.to, q'), by dsimp only; omega, by dsimp only; omega, x5, hpos, gc3, ck3, hs, rfl, rfl⟩
            · rw [if_neg x5] at hs
              simp (maxSteps := 10000000) (implicitDefEqProofs := false) (disch := first | omega | (simp only [add_nx, set_nx, kill_nx, bump_nx]; omega)) only [go_sem, get_set, ↓reduceIte, Nat.reduceEqDiff, Nat.reduceAdd, Nat.reduceSub, Nat.reduceMul, Nat.reduceMod, Nat.reduceDiv, Nat.reduceLT, Nat.reduceLeDiff, reduceCtorEq, decide_true, decide_false, Bool.false_eq_true, true_and, and_true, eq_self, Nat.zero_add, Nat.add_zero, Nat.mul_one, Nat.zero_mul, Nat.sub_zero, List.drop_zero, List.nil_append, List.append_nil, List.cons_append, Nat.zero_le, wrap64_nat, wrap64_int, wrap8u_lt, wrap32u_lt, wrap64u_lt, subI_nat, ixs_at, slcS_at, ia_sl, ia_ar, hadd_eq, hadd_ne, hset_eq, hset_ne, hkill_ne, at_add_same, at_add_ne, at_set_same, at_set_ne, at_kill_ne, mks_ok, bin_s_add, g0, g5, v0, c0, hol, x1, x2, x4, hme, x5]
              exact ⟨gc3, .inr ⟨hs, _, ck3⟩⟩
      · rw [if_pos (.inr (.inl (by omega)))] at hs
        simp (maxSteps := 10000000) (implicitDefEqProofs := false) (disch := first | omega | (simp only [add_nx, set_nx, kill_nx, bump_nx]; omega)) only [go_sem, get_set, ↓reduceIte, Nat.reduceEqDiff, Nat.reduceAdd, Nat.reduceSub, Nat.reduceMul, Nat.reduceMod, Nat.reduceDiv, Nat.reduceLT, Nat.reduceLeDiff, reduceCtorEq, decide_true, decide_false, Bool.false_eq_true, true_and, and_true, eq_self, Nat.zero_add, Nat.add_zero, Nat.mul_one, Nat.zero_mul, Nat.sub_zero, List.drop_zero, List.nil_append, List.append_nil, List.cons_append, Nat.zero_le, wrap64_nat, wrap64_int, wrap8u_lt, wrap32u_lt, wrap64u_lt, subI_nat, ixs_at, slcS_at, ia_sl, ia_ar, hadd_eq, hadd_ne, hset_eq, hset_ne, hkill_ne, at_add_same, at_add_ne, at_set_same, at_set_ne, at_kill_ne, mks_ok, bin_s_add, g0, g5, v0, c0, hol, x1, x2]
        exact ⟨gc2, .inr ⟨hs, _, ck2⟩⟩
    · rw [if_pos (.inl (by omega))] at hs
      simp (maxSteps := 10000000) (implicitDefEqProofs := false) (disch := first | omega | (simp only [add_nx, set_nx, kill_nx, bump_nx]; omega)) only [go_sem, get_set, ↓reduceIte, Nat.reduceEqDiff, Nat.reduceAdd, Nat.reduceSub, Nat.reduceMul, Nat.reduceMod, Nat.reduceDiv, Nat.reduceLT, Nat.reduceLeDiff, reduceCtorEq, decide_true, decide_false, Bool.false_eq_true, true_and, and_true, eq_self, Nat.zero_add, Nat.add_zero, Nat.mul_one, Nat.zero_mul, Nat.sub_zero, List.drop_zero, List.nil_append, List.append_nil, List.cons_append, Nat.zero_le, wrap64_nat, wrap64_int, wrap8u_lt, wrap32u_lt, wrap64u_lt, subI_nat, ixs_at, slcS_at, ia_sl, ia_ar, hadd_eq, hadd_ne, hset_eq, hset_ne, hkill_ne, at_add_same, at_add_ne, at_set_same, at_set_ne, at_kill_ne, mks_ok, bin_s_add, g0, g5, v0, c0, hol, x1]
      exact ⟨gc2, .inr ⟨hs, _, ck2⟩⟩
  · have : k = l.length := by omega
    subst this
    rw [List.drop_length] at hs
    simp (maxSteps := 10000000) (implicitDefEqProofs := false) (disch := first | omega | (simp only [add_nx, set_nx, kill_nx, bump_nx]; omega)) only [go_sem, get_set, ↓reduceIte, Nat.reduceEqDiff, Nat.reduceAdd, Nat.reduceSub, Nat.reduceMul, Nat.reduceMod, Nat.reduceDiv, Nat.reduceLT, Nat.reduceLeDiff, reduceCtorEq, decide_true, decide_false, Bool.false_eq_true, true_and, and_true, eq_self, Nat.zero_add, Nat.add_zero, Nat.mul_one, Nat.zero_mul, Nat.sub_zero, List.drop_zero, List.nil_append, List.append_nil, List.cons_append, Nat.zero_le, wrap64_nat, wrap64_int, wrap8u_lt, wrap32u_lt, wrap64u_lt, subI_nat, ixs_at, slcS_at, ia_sl, ia_ar, hadd_eq, hadd_ne, hset_eq, hset_ne, hkill_ne, at_add_same, at_add_ne, at_set_same, at_set_ne, at_kill_ne, mks_ok, bin_s_add, l97_0, g18, g19, hlt]
    exact ⟨gc, .inl ⟨_, hs, ck'⟩⟩
end Go.Proofs.YtgnpoaoekhplhaaGreatDoor.AE.Tst
set_option linter.unusedVariables false
set_option linter.unusedSimpArgs false
namespace Go.Proofs.YtgnpoaoekhplhaaGreatDoor.AE.Tst
open Go Go.Proofs.YtgnpoaoekhplhaaGreatDoor.AE Go.Proofs.YtgnpoaoekhplhaaGreatDoor.AE.Sim

def sumN (p : Nat) (l : List Br) : Nat := (l.map fun b => (smallP b.p).1.natAbs * (p / (smallP b.p).2.1)).sum
theorem sumN_app (p : Nat) (a b : List Br) : sumN p (a ++ b) = sumN p a + sumN p b := by simp [sumN]
theorem sumB_N (p : Nat) : ∀ (l : List Br), (∀ b ∈ l, 1 ≤ (smallP b.p).1) → sumB p l = ((sumN p l : Nat) : Int)
  | [], _ => rfl
  | b :: l, h => by
    have h1 := h b (by simp)
    have ih := sumB_N p l (fun x hx => h x (List.mem_cons_of_mem _ hx))
    have e1 : sumB p (b :: l) = (smallP b.p).1 * ((p / (smallP b.p).2.1 : Nat) : Int) + sumB p l := by simp [sumB]
    have e2 : sumN p (b :: l) = (smallP b.p).1.natAbs * (p / (smallP b.p).2.1) + sumN p l := by simp [sumN]
    rw [e1, e2, ih, Int.natCast_add, Int.natCast_mul]
    congr 2
    omega
theorem sumN_le {p : Nat} (hp : p ≤ 9999) : ∀ (l : List Br), (∀ b ∈ l, (smallP b.p).2.2 = true) → sumN p l ≤ l.length * 99980001
  | [], _ => by simp [sumN]
  | b :: l, h => by
    have ih := sumN_le hp l (fun x hx => h x (List.mem_cons_of_mem _ hx))
    obtain ⟨d1, d2, n1, n2⟩ := small_bounds (h b (by simp))
    have e2 : sumN p (b :: l) = (smallP b.p).1.natAbs * (p / (smallP b.p).2.1) + sumN p l := by simp [sumN]
    have h3 : (smallP b.p).1.natAbs * (p / (smallP b.p).2.1) ≤ 9999 * 9999 := Nat.mul_le_mul (by omega) (Nat.le_trans (Nat.div_le_self _ _) hp)
    rw [e2, List.length_cons]; omega

theorem spread2 {h0 h : Hp} (gr : Gr h0 h) (hl0 : laidB h0 L11 = true) (C : Nat) (o c : V) (P : Nat) (G : Int) (ck : CkR h C o c (P : Int) G) (hP : P ≤ 9999)
    (l : List Br) (nv : V) (hn : NextR h0 nv l) (hln : l.length ≤ 1048576) (hsm : ∀ b ∈ l, SmallAt b.p) (hok : ∀ b ∈ l, (smallP b.p).2.2 = true ∧ 1 ≤ (smallP b.p).1)
    (tm : Tm) (t0 : tm.get 0 = some (.p C 0)) (t64 : tm.get 64 = some nv) (t65 : tm.get 65 = some (.i .i64 ((l.length : Nat) : Int))) (t66 : tm.get 66 = some (.i .i64 ((0 : Nat) : Int))) (t11 : tm.get 11 = some (.i .i64 ((0 : Nat) : Int))) :
    Yc (E (.loop none l97_1 ⟨tm, [], h⟩)) fun e st => st.df = [] ∧ AlB (wrs l97_1) tm st.tm ∧ Gr h st.h ∧ e = .exit 2 ∧ st.tm.get 11 = some (.i .i64 ((sumN P l : Nat) : Int)) := by
  refine E_rule (α := Nat) (fun k tm h' => k ≤ l.length ∧ Gr h h' ∧ tm.get 66 = some (.i .i64 (k : Int)) ∧ tm.get 11 = some (.i .i64 ((sumN P (l.take k) : Nat) : Int))) (fun k => l.length - k)
    (fun e tm h' => Gr h h' ∧ e = .exit 2 ∧ tm.get 11 = some (.i .i64 ((sumN P l : Nat) : Int))) (by rfl) ?_ 0 tm h ⟨by omega, Gr.refl gr.ok, t66, t11⟩ (AlB.refl _ _)
  rintro k tm' h' ⟨hk, gc, g66, g11⟩ al
  have g0 := (al 0 (by rfl)).trans t0
  have g64 := (al 64 (by rfl)).trans t64
  have g65 := (al 65 (by rfl)).trans t65
  have grb := gr.trans gc
  by_cases hlt : k < l.length
  · obtain ⟨id, off, xs, a1, a2, rfl, a4⟩ := hn.ia (k := .i64) hlt
    have hld : ldV (some 2) (some (.p id off)) h' = some (.ag [.i .i64 (l[k]).to, .s (l[k]).p]) := ld_cells rfl (by omega) (fun i hi => grb.at (a4 i hi))
    rw [ldn_eq] at hld
    have hsk := hsm _ (List.getElem_mem hlt)
    obtain ⟨ok1, ok2⟩ := hok _ (List.getElem_mem hlt)
    have hsum : sumN P (l.take (k + 1)) = sumN P (l.take k) + (smallP (l[k]).p).1.natAbs * (P / (smallP (l[k]).p).2.1) := by
      rw [List.take_succ_eq_append_getElem hlt, sumN_app]; simp [sumN]
    have hsb := sumN_le hP (l.take k) (fun b hb => (hok b (List.mem_of_mem_take hb)).1)
    have hlk : (l.take k).length ≤ 1048576 := by rw [List.length_take]; omega
    generalize l[k] = b at *
    have hv := ((Gr.refl gc.ok).add (.c [.i .i64 ((0 : Nat) : Int), .s []] 24 none false false 0)).set (j := h'.nx) (Nat.le_refl _) (Nat.lt_succ_self _) (.c [.i .i64 b.to, .s b.p] 24 none false false 0)
    have key := hsk _ hv.ok ((grb.trans hv).laid hl0)
    simp (maxSteps := 10000000) (implicitDefEqProofs := false) (disch := first | omega | (simp only [add_nx, set_nx, kill_nx, bump_nx]; omega)) only [go_sem, get_set, ↓reduceIte, Nat.reduceEqDiff, Nat.reduceAdd, Nat.reduceSub, Nat.reduceMul, Nat.reduceMod, Nat.reduceDiv, Nat.reduceLT, Nat.reduceLeDiff, reduceCtorEq, decide_true, decide_false, Bool.false_eq_true, true_and, and_true, eq_self, Nat.zero_add, Nat.add_zero, Nat.mul_one, Nat.zero_mul, Nat.sub_zero, List.drop_zero, List.nil_append, List.append_nil, List.cons_append, Nat.zero_le, wrap64_nat, wrap64_int, wrap8u_lt, wrap32u_lt, wrap64u_lt, subI_nat, ixs_at, slcS_at, ia_sl, ia_ar, hadd_eq, hadd_ne, hset_eq, hset_ne, hkill_ne, at_add_same, at_add_ne, at_set_same, at_set_ne, at_kill_ne, mks_ok, bin_s_add, l97_1, g0, g64, g65, g66, hlt, a1, hld]
    refine key.mono ?_
    rintro v h2 ⟨rfl, gr2⟩
    have ck2 := gr2.keep _ _ (hv.keep _ _ (gc.keep _ _ ck))
    obtain ⟨c0, c1, c2, c3⟩ := ckR_at (h := h2) ck2
    obtain ⟨d1, d2, n1, n2⟩ := small_bounds ok1
    generalize smallP b.p = sp at *
    obtain ⟨num, den, isn⟩ := sp
    dsimp only at *
    obtain ⟨N, rfl⟩ : ∃ N : Nat, num = (N : Int) := ⟨num.toNat, by omega⟩
    have hq : P / den ≤ 9999 := Nat.le_trans (Nat.div_le_self _ _) hP
    have hm : N * (P / den) ≤ 9999 * 9999 := Nat.mul_le_mul (by omega) hq
    have hden : den ≠ 0 := by omega
    rw [Int.natAbs_natCast] at hsum
    have hm2 : N * (P / den) < 9223372036854775808 := by omega
    have hm3 : sumN P (l.take k) + N * (P / den) < 9223372036854775808 := by omega
    simp (maxSteps := 10000000) (implicitDefEqProofs := false) (disch := first | omega | (simp only [add_nx, set_nx, kill_nx, bump_nx]; omega)) only [go_sem, get_set, ↓reduceIte, Nat.reduceEqDiff, Nat.reduceAdd, Nat.reduceSub, Nat.reduceMul, Nat.reduceMod, Nat.reduceDiv, Nat.reduceLT, Nat.reduceLeDiff, reduceCtorEq, decide_true, decide_false, Bool.false_eq_true, true_and, and_true, eq_self, Nat.zero_add, Nat.add_zero, Nat.mul_one, Nat.zero_mul, Nat.sub_zero, List.drop_zero, List.nil_append, List.append_nil, List.cons_append, Nat.zero_le, wrap64_nat, wrap64_int, wrap8u_lt, wrap32u_lt, wrap64u_lt, subI_nat, ixs_at, slcS_at, ia_sl, ia_ar, hadd_eq, hadd_ne, hset_eq, hset_ne, hkill_ne, at_add_same, at_add_ne, at_set_same, at_set_ne, at_kill_ne, mks_ok, bin_s_add, g0, g11, c2, hden, g66]
    exact ⟨k + 1, by omega, by omega, gc.trans (hv.trans gr2), rfl, by rw [hsum]⟩
  · have : k = l.length := by omega
    subst this
    rw [List.take_length] at g11
    simp (maxSteps := 10000000) (implicitDefEqProofs := false) (disch := first | omega | (simp only [add_nx, set_nx, kill_nx, bump_nx]; omega)) only [go_sem, get_set, ↓reduceIte, Nat.reduceEqDiff, Nat.reduceAdd, Nat.reduceSub, Nat.reduceMul, Nat.reduceMod, Nat.reduceDiv, Nat.reduceLT, Nat.reduceLeDiff, reduceCtorEq, decide_true, decide_false, Bool.false_eq_true, true_and, and_true, eq_self, Nat.zero_add, Nat.add_zero, Nat.mul_one, Nat.zero_mul, Nat.sub_zero, List.drop_zero, List.nil_append, List.append_nil, List.cons_append, Nat.zero_le, wrap64_nat, wrap64_int, wrap8u_lt, wrap32u_lt, wrap64u_lt, subI_nat, ixs_at, slcS_at, ia_sl, ia_ar, hadd_eq, hadd_ne, hset_eq, hset_ne, hkill_ne, at_add_same, at_add_ne, at_set_same, at_set_ne, at_kill_ne, mks_ok, bin_s_add, l97_1, g65, g66, hlt]
    exact ⟨gc, g11⟩

theorem spread_ok {h0 h : Hp} (gr : Gr h0 h) (hl0 : laidB h0 L11 = true) (C : Nat) (hC : h0.nx ≤ C) (o c : V) (P : Nat) (G : Int) (n : Nat) (ck : CkR h C o c (P : Int) G) (hP1 : 1 ≤ P) (hP : P ≤ 9999)
    (l : List Br) (nv : V) (hn : NextR h0 nv l) (hol : lenV false (some o) = some (.i .i64 (n : Int))) (hln : l.length ≤ 1048576) (hsm : ∀ b ∈ l, SmallAt b.p) :
    Yv (E (.call 97 [.p C 0, nv] h)) fun v h' => GrC C h h' ∧ ((v = .b true ∧ ∃ P', spreadP n P l = some P' ∧ CkR h' C o c (P' : Int) G) ∨ (v = .b false ∧ spreadP n P l = none ∧ ∃ P', CkR h' C o c P' G)) := by
  rw [e97]
  have gl := hn.len
  have hneg : Int.negSucc 0 = -1 := rfl
  simp (maxSteps := 10000000) (implicitDefEqProofs := false) (disch := first | omega | (simp only [add_nx, set_nx, kill_nx, bump_nx]; omega)) only [go_sem, get_set, ↓reduceIte, Nat.reduceEqDiff, Nat.reduceAdd, Nat.reduceSub, Nat.reduceMul, Nat.reduceMod, Nat.reduceDiv, Nat.reduceLT, Nat.reduceLeDiff, reduceCtorEq, decide_true, decide_false, Bool.false_eq_true, true_and, and_true, eq_self, Nat.zero_add, Nat.add_zero, Nat.mul_one, Nat.zero_mul, Nat.sub_zero, List.drop_zero, List.nil_append, List.append_nil, List.cons_append, Nat.zero_le, wrap64_nat, wrap64_int, wrap8u_lt, wrap32u_lt, wrap64u_lt, subI_nat, ixs_at, slcS_at, ia_sl, ia_ar, hadd_eq, hadd_ne, hset_eq, hset_ne, hkill_ne, at_add_same, at_add_ne, at_set_same, at_set_ne, at_kill_ne, mks_ok, bin_s_add, b97, gl]
  refine (spread1 gr hl0 C hC o c P G n ck hP1 hP l nv hn hol hln hsm _ (by simp (maxSteps := 10000000) (implicitDefEqProofs := false) only [go_sem, get_set, ↓reduceIte, Nat.reduceEqDiff, Nat.reduceAdd, Nat.reduceSub, Nat.reduceMul, Nat.reduceMod, Nat.reduceDiv, Nat.reduceLT, Nat.reduceLeDiff, reduceCtorEq, decide_true, decide_false, Bool.false_eq_true, true_and, and_true, eq_self, Nat.zero_add, Nat.add_zero, Nat.mul_one, Nat.zero_mul, Nat.sub_zero, List.drop_zero, List.nil_append, List.append_nil, List.cons_append, Nat.zero_le]) (by simp (maxSteps := 10000000) (implicitDefEqProofs := false) only [go_sem, get_set, ↓reduceIte, Nat.reduceEqDiff, Nat.reduceAdd, Nat.reduceSub, Nat.reduceMul, Nat.reduceMod, Nat.reduceDiv, Nat.reduceLT, Nat.reduceLeDiff, reduceCtorEq, decide_true, decide_false, Bool.false_eq_true, true_and, and_true, eq_self, Nat.zero_add, Nat.add_zero, Nat.mul_one, Nat.zero_mul, Nat.sub_zero, List.drop_zero, List.nil_append, List.append_nil, List.cons_append, Nat.zero_le]) (by simp (maxSteps := 10000000) (implicitDefEqProofs := false) only [go_sem, get_set, ↓reduceIte, Nat.reduceEqDiff, Nat.reduceAdd, Nat.reduceSub, Nat.reduceMul, Nat.reduceMod, Nat.reduceDiv, Nat.reduceLT, Nat.reduceLeDiff, reduceCtorEq, decide_true, decide_false, Bool.false_eq_true, true_and, and_true, eq_self, Nat.zero_add, Nat.add_zero, Nat.mul_one, Nat.zero_mul, Nat.sub_zero, List.drop_zero, List.nil_append, List.append_nil, List.cons_append, Nat.zero_le]) (by simp (maxSteps := 10000000) (implicitDefEqProofs := false) only [go_sem, get_set, ↓reduceIte, Nat.reduceEqDiff, Nat.reduceAdd, Nat.reduceSub, Nat.reduceMul, Nat.reduceMod, Nat.reduceDiv, Nat.reduceLT, Nat.reduceLeDiff, reduceCtorEq, decide_true, decide_false, Bool.false_eq_true, true_and, and_true, eq_self, Nat.zero_add, Nat.add_zero, Nat.mul_one, Nat.zero_mul, Nat.sub_zero, List.drop_zero, List.nil_append, List.append_nil, List.cons_append, Nat.zero_le]) (by simp (maxSteps := 10000000) (implicitDefEqProofs := false) only [go_sem, get_set, ↓reduceIte, Nat.reduceEqDiff, Nat.reduceAdd, Nat.reduceSub, Nat.reduceMul, Nat.reduceMod, Nat.reduceDiv, Nat.reduceLT, Nat.reduceLeDiff, reduceCtorEq, decide_true, decide_false, Bool.false_eq_true, true_and, and_true, eq_self, Nat.zero_add, Nat.add_zero, Nat.mul_one, Nat.zero_mul, Nat.sub_zero, List.drop_zero, List.nil_append, List.append_nil, List.cons_append, Nat.zero_le] <;> rfl)).mono ?_
  rintro e ⟨tm, df, h1⟩ ⟨rfl, al, gc, ⟨rfl, P', hs, ck1⟩ | ⟨rfl, g4, hs, P', ck1⟩⟩
  · have g0 := al 0 (by rfl)
    have g1 := al 1 (by rfl)
    simp (maxSteps := 10000000) (implicitDefEqProofs := false) only [go_sem, get_set, ↓reduceIte, Nat.reduceEqDiff, Nat.reduceAdd, Nat.reduceSub, Nat.reduceMul, Nat.reduceMod, Nat.reduceDiv, Nat.reduceLT, Nat.reduceLeDiff, reduceCtorEq, decide_true, decide_false, Bool.false_eq_true, true_and, and_true, eq_self, Nat.zero_add, Nat.add_zero, Nat.mul_one, Nat.zero_mul, Nat.sub_zero, List.drop_zero, List.nil_append, List.append_nil, List.cons_append, Nat.zero_le] at g0 g1
    have hok := spr_small hs
    have hP' := spr_le hP hs
    dsimp only at gc ck1
    simp (maxSteps := 10000000) (implicitDefEqProofs := false) (disch := first | omega | (simp only [add_nx, set_nx, kill_nx, bump_nx]; omega)) only [go_sem, get_set, ↓reduceIte, Nat.reduceEqDiff, Nat.reduceAdd, Nat.reduceSub, Nat.reduceMul, Nat.reduceMod, Nat.reduceDiv, Nat.reduceLT, Nat.reduceLeDiff, reduceCtorEq, decide_true, decide_false, Bool.false_eq_true, true_and, and_true, eq_self, Nat.zero_add, Nat.add_zero, Nat.mul_one, Nat.zero_mul, Nat.sub_zero, List.drop_zero, List.nil_append, List.append_nil, List.cons_append, Nat.zero_le, wrap64_nat, wrap64_int, wrap8u_lt, wrap32u_lt, wrap64u_lt, subI_nat, ixs_at, slcS_at, ia_sl, ia_ar, hadd_eq, hadd_ne, hset_eq, hset_ne, hkill_ne, at_add_same, at_add_ne, at_set_same, at_set_ne, at_kill_ne, mks_ok, bin_s_add, g1, gl]
    refine (spread2 (gc.base gr hC) hl0 C o c P' G ck1 hP' l nv hn hln hsm hok _ (by simp (maxSteps := 10000000) (implicitDefEqProofs := false) only [go_sem, get_set, ↓reduceIte, Nat.reduceEqDiff, Nat.reduceAdd, Nat.reduceSub, Nat.reduceMul, Nat.reduceMod, Nat.reduceDiv, Nat.reduceLT, Nat.reduceLeDiff, reduceCtorEq, decide_true, decide_false, Bool.false_eq_true, true_and, and_true, eq_self, Nat.zero_add, Nat.add_zero, Nat.mul_one, Nat.zero_mul, Nat.sub_zero, List.drop_zero, List.nil_append, List.append_nil, List.cons_append, Nat.zero_le, g0]) (by simp (maxSteps := 10000000) (implicitDefEqProofs := false) only [go_sem, get_set, ↓reduceIte, Nat.reduceEqDiff, Nat.reduceAdd, Nat.reduceSub, Nat.reduceMul, Nat.reduceMod, Nat.reduceDiv, Nat.reduceLT, Nat.reduceLeDiff, reduceCtorEq, decide_true, decide_false, Bool.false_eq_true, true_and, and_true, eq_self, Nat.zero_add, Nat.add_zero, Nat.mul_one, Nat.zero_mul, Nat.sub_zero, List.drop_zero, List.nil_append, List.append_nil, List.cons_append, Nat.zero_le]) (by simp (maxSteps := 10000000) (implicitDefEqProofs := false) only [go_sem, get_set, ↓reduceIte, Nat.reduceEqDiff, Nat.reduceAdd, Nat.reduceSub, Nat.reduceMul, Nat.reduceMod, Nat.reduceDiv, Nat.reduceLT, Nat.reduceLeDiff, reduceCtorEq, decide_true, decide_false, Bool.false_eq_true, true_and, and_true, eq_self, Nat.zero_add, Nat.add_zero, Nat.mul_one, Nat.zero_mul, Nat.sub_zero, List.drop_zero, List.nil_append, List.append_nil, List.cons_append, Nat.zero_le]) (by simp (maxSteps := 10000000) (implicitDefEqProofs := false) only [go_sem, get_set, ↓reduceIte, Nat.reduceEqDiff, Nat.reduceAdd, Nat.reduceSub, Nat.reduceMul, Nat.reduceMod, Nat.reduceDiv, Nat.reduceLT, Nat.reduceLeDiff, reduceCtorEq, decide_true, decide_false, Bool.false_eq_true, true_and, and_true, eq_self, Nat.zero_add, Nat.add_zero, Nat.mul_one, Nat.zero_mul, Nat.sub_zero, List.drop_zero, List.nil_append, List.append_nil, List.cons_append, Nat.zero_le]) (by simp (maxSteps := 10000000) (implicitDefEqProofs := false) only [go_sem, get_set, ↓reduceIte, Nat.reduceEqDiff, Nat.reduceAdd, Nat.reduceSub, Nat.reduceMul, Nat.reduceMod, Nat.reduceDiv, Nat.reduceLT, Nat.reduceLeDiff, reduceCtorEq, decide_true, decide_false, Bool.false_eq_true, true_and, and_true, eq_self, Nat.zero_add, Nat.add_zero, Nat.mul_one, Nat.zero_mul, Nat.sub_zero, List.drop_zero, List.nil_append, List.append_nil, List.cons_append, Nat.zero_le])).mono ?_
    rintro e ⟨tm2, df2, h2⟩ ⟨rfl, al2, gr2, rfl, g11⟩
    have k0 := al2 0 (by rfl)
    simp (maxSteps := 10000000) (implicitDefEqProofs := false) only [go_sem, get_set, ↓reduceIte, Nat.reduceEqDiff, Nat.reduceAdd, Nat.reduceSub, Nat.reduceMul, Nat.reduceMod, Nat.reduceDiv, Nat.reduceLT, Nat.reduceLeDiff, reduceCtorEq, decide_true, decide_false, Bool.false_eq_true, true_and, and_true, eq_self, Nat.zero_add, Nat.add_zero, Nat.mul_one, Nat.zero_mul, Nat.sub_zero, List.drop_zero, List.nil_append, List.append_nil, List.cons_append, Nat.zero_le, g0] at k0
    dsimp only at gr2 g11
    obtain ⟨c0, c1, c2, c3⟩ := ckR_at (gr2.keep _ _ ck1)
    have hB := sumB_N P' l (fun b hb => (hok b hb).2)
    simp (maxSteps := 10000000) (implicitDefEqProofs := false) (disch := first | omega | (simp only [add_nx, set_nx, kill_nx, bump_nx]; omega)) only [go_sem, get_set, ↓reduceIte, Nat.reduceEqDiff, Nat.reduceAdd, Nat.reduceSub, Nat.reduceMul, Nat.reduceMod, Nat.reduceDiv, Nat.reduceLT, Nat.reduceLeDiff, reduceCtorEq, decide_true, decide_false, Bool.false_eq_true, true_and, and_true, eq_self, Nat.zero_add, Nat.add_zero, Nat.mul_one, Nat.zero_mul, Nat.sub_zero, List.drop_zero, List.nil_append, List.append_nil, List.cons_append, Nat.zero_le, wrap64_nat, wrap64_int, wrap8u_lt, wrap32u_lt, wrap64u_lt, subI_nat, ixs_at, slcS_at, ia_sl, ia_ar, hadd_eq, hadd_ne, hset_eq, hset_ne, hkill_ne, at_add_same, at_add_ne, at_set_same, at_set_ne, at_kill_ne, mks_ok, bin_s_add, k0, g11, c2]
    refine ⟨gc.trans (GrC.of gr2), ?_⟩
    by_cases he : sumN P' l = P'
    · left
      have : spreadP n P l = some P' := by unfold spreadP; rw [hs]; dsimp only; rw [if_pos (by rw [hB, he])]
      rw [decide_eq_true he]
      exact ⟨rfl, P', this, gr2.keep _ _ ck1⟩
    · right
      have : spreadP n P l = none := by unfold spreadP; rw [hs]; dsimp only; rw [if_neg (by rw [hB]; intro e; exact he (Int.ofNat.inj e))]
      rw [decide_eq_false he]
      exact ⟨rfl, this, _, gr2.keep _ _ ck1⟩
  · have : spreadP n P l = none := by unfold spreadP; rw [hs]
    dsimp only at gc g4 ck1
    simp (maxSteps := 10000000) (implicitDefEqProofs := false) (disch := first | omega | (simp only [add_nx, set_nx, kill_nx, bump_nx]; omega)) only [go_sem, get_set, ↓reduceIte, Nat.reduceEqDiff, Nat.reduceAdd, Nat.reduceSub, Nat.reduceMul, Nat.reduceMod, Nat.reduceDiv, Nat.reduceLT, Nat.reduceLeDiff, reduceCtorEq, decide_true, decide_false, Bool.false_eq_true, true_and, and_true, eq_self, Nat.zero_add, Nat.add_zero, Nat.mul_one, Nat.zero_mul, Nat.sub_zero, List.drop_zero, List.nil_append, List.append_nil, List.cons_append, Nat.zero_le, wrap64_nat, wrap64_int, wrap8u_lt, wrap32u_lt, wrap64u_lt, subI_nat, ixs_at, slcS_at, ia_sl, ia_ar, hadd_eq, hadd_ne, hset_eq, hset_ne, hkill_ne, at_add_same, at_add_ne, at_set_same, at_set_ne, at_kill_ne, mks_ok, bin_s_add, g4]
    exact ⟨gc, .inr ⟨this, P', ck1⟩⟩
end Go.Proofs.YtgnpoaoekhplhaaGreatDoor.AE.Tst
set_option linter.unusedVariables false
set_option linter.unusedSimpArgs false
namespace Go.Proofs.YtgnpoaoekhplhaaGreatDoor.AE.Tst
open Go Go.Proofs.YtgnpoaoekhplhaaGreatDoor.AE Go.Proofs.YtgnpoaoekhplhaaGreatDoor.AE.Sim

theorem spr_pos {n : Nat} : ∀ {l : List Br} {last : Int} {P q : Nat}, 1 ≤ P → spr n last P l = some q → 1 ≤ q
  | [], _, _, _, hp, hs => by cases hs; exact hp
  | b :: l, last, P, q, hP1, hs => by
    simp only [spr] at hs
    split at hs
    · cases hs
    · next hc =>
      split at hs
      · next h9 =>
        have hb : (smallP b.p).2.2 = true := by
          cases hh : (smallP b.p).2.2 with
          | true => rfl
          | false => exact absurd (.inr (.inr (.inl hh))) hc
        obtain ⟨d1, d2, _, _⟩ := small_bounds hb
        refine spr_pos ?_ hs
        have h1 : Nat.gcd (smallP b.p).2.1 P ≤ P := Nat.gcd_le_right _ (by omega)
        have h2 : 0 < Nat.gcd (smallP b.p).2.1 P := Nat.gcd_pos_of_pos_left _ (by omega)
        have h3 : 1 ≤ P / Nat.gcd (smallP b.p).2.1 P := (Nat.one_le_div_iff h2).2 h1
        exact Nat.le_trans h3 (Nat.le_mul_of_pos_right _ (by omega))
      · cases hs
theorem spreadP_pos {n P P' : Nat} {l : List Br} (h : spreadP n P l = some P') (hP1 : 1 ≤ P) (hP : P ≤ 9999) : 1 ≤ P' ∧ P' ≤ 9999 := by
  unfold spreadP at h
  cases hs : spr n (-1) P l with
  | none => rw [hs] at h; cases h
  | some q =>
    rw [hs] at h
    dsimp only at h
    split at h
    · cases h
      exact ⟨spr_pos hP1 hs, spr_le hP hs⟩
    · cases h
def branchP (n : Nat) : Nat → List (Nat × Ch) → Option Nat
  | P, [] => some P
  | P, x :: rest => match spreadP n P x.2.next with
    | some P' => branchP n P' rest
    | none => none
def AllSmall (m : Mo) : Prop := ∀ x ∈ allC m, SmallAt x.2.gain ∧ ∀ b ∈ x.2.next, SmallAt b.p

theorem branched_ok {h0 h : Hp} (gr0 : Gr h0 h) (hl0 : laidB h0 L11 = true) (C : Nat) (hC : h0.nx ≤ C) (o c : V) (p : Int) (G : Int) (m : Mo) (ck : CkR h C o c p G) (hm : MoR h0 o c m) (sm : SmallMo m) (as : AllSmall m) :
    Yv (E (.call 76 [.p C 0] h)) fun v h' => GrC C h h' ∧ ((v = .b true ∧ ∃ P', branchP m.owner.length 1 (allC m) = some P' ∧ CkR h' C o c (P' : Int) G) ∨ (v = .b false ∧ branchP m.owner.length 1 (allC m) = none ∧ ∃ P', CkR h' C o c P' G)) := by
  have n0 := hm.1.num.1
  have n1 := hm.2.num.1
  have ok := gr0.ok
  have hCl := ok.lt ck
  rw [e76]
  have g1 := ((Gr.refl ok).add (.c [.p C 0] 82 none false false 0)).add (.c [.b false] 4 none false false 0)
  have ck1 := g1.keep _ _ ck
  simp (maxSteps := 10000000) (implicitDefEqProofs := false) (disch := first | omega | (simp only [add_nx, set_nx, kill_nx, bump_nx]; omega)) only [go_sem, get_set, ↓reduceIte, Nat.reduceEqDiff, Nat.reduceAdd, Nat.reduceSub, Nat.reduceMul, Nat.reduceMod, Nat.reduceDiv, Nat.reduceLT, Nat.reduceLeDiff, reduceCtorEq, decide_true, decide_false, Bool.false_eq_true, true_and, and_true, eq_self, Nat.zero_add, Nat.add_zero, Nat.mul_one, Nat.zero_mul, Nat.sub_zero, List.drop_zero, List.nil_append, List.append_nil, List.cons_append, Nat.zero_le, wrap64_nat, wrap64_int, wrap8u_lt, wrap32u_lt, wrap64u_lt, subI_nat, ixs_at, slcS_at, ia_sl, ia_ar, hadd_eq, hadd_ne, hset_eq, hset_ne, hkill_ne, at_add_same, at_add_ne, at_set_same, at_set_ne, at_kill_ne, mks_ok, bin_s_add, b76, ck1, all_ok, n0, n1]
  have gcx := (GrC.of (C := C) g1).setC (by show C < h.nx + 1 + 1; omega) (.c [o, c, .i .i64 ((1 : Nat) : Int), .i .i64 G] 86 none false false 0)
  have gr1 := gcx.base gr0 hC
  have hB1 : ((h.add (.c [.p C 0] 82 none false false 0)).add (.c [.b false] 4 none false false 0)).get h.nx = some (.c [.p C 0] 82 none false false 0) := by
    rw [hadd_ne _ _ (by show h.nx ≠ h.nx + 1; omega)]; exact hadd_same _ _
  have hr1 : ((h.add (.c [.p C 0] 82 none false false 0)).add (.c [.b false] 4 none false false 0)).get (h.nx + 1) = some (.c [.b false] 4 none false false 0) := hadd_same (h.add _) _
  have g2 := (Gr.refl gcx.ok).add (.c [o, c] 32 none false false 0)
  have hM := hadd_same (((h.add (.c [.p C 0] 82 none false false 0)).add (.c [.b false] 4 none false false 0)).set C (.c [o, c, .i .i64 ((1 : Nat) : Int), .i .i64 G] 86 none false false 0)) (.c [o, c] 32 none false false 0)
  have hB2 := g2.keep _ _ ((hset_ne _ (.c [o, c, .i .i64 ((1 : Nat) : Int), .i .i64 G] 86 none false false 0) (show h.nx ≠ C by omega)).trans hB1)
  have hr2 := g2.keep _ _ ((hset_ne _ (.c [o, c, .i .i64 ((1 : Nat) : Int), .i .i64 G] 86 none false false 0) (show h.nx + 1 ≠ C by omega)).trans hr1)
  have hc2 := g2.keep _ _ (hset_same ((h.add (.c [.p C 0] 82 none false false 0)).add (.c [.b false] 4 none false false 0)) C (.c [o, c, .i .i64 ((1 : Nat) : Int), .i .i64 G] 86 none false false 0))
  have hMn : (((h.add (.c [.p C 0] 82 none false false 0)).add (.c [.b false] 4 none false false 0)).set C (.c [o, c, .i .i64 ((1 : Nat) : Int), .i .i64 G] 86 none false false 0)).nx = h.nx + 2 := rfl
  rw [hMn] at hM
  have gcH := gcx.trans (GrC.of g2)
  have hHn : ((((h.add (.c [.p C 0] 82 none false false 0)).add (.c [.b false] 4 none false false 0)).set C (.c [o, c, .i .i64 ((1 : Nat) : Int), .i .i64 G] 86 none false false 0)).add (.c [o, c] 32 none false false 0)).nx = h.nx + 3 := rfl
  generalize (((h.add (.c [.p C 0] 82 none false false 0)).add (.c [.b false] 4 none false false 0)).set C (.c [o, c, .i .i64 ((1 : Nat) : Int), .i .i64 G] 86 none false false 0)).add (.c [o, c] 32 none false false 0) = H at hM hB2 hr2 hc2 gcH hHn ⊢
  clear hB1 hr1 g2 gr1 gcx ck1 g1
  refine (rf_all (m := m) hm sm.loops
    (fun rem hh => Gr h0 hh ∧ hh.get (h.nx + 2) = some (.c [o, c] 32 none false false 0) ∧ GrC C h hh ∧ hh.get H.nx = some .d ∧ hh.get h.nx = some (.c [.p C 0] 82 none false false 0) ∧ hh.get (h.nx + 1) = some (.c [.b false] 4 none false false 0) ∧
      (∃ P : Nat, 1 ≤ P ∧ P ≤ 9999 ∧ CkR hh C o c (P : Int) G ∧ branchP m.owner.length 1 (allC m) = branchP m.owner.length P rem) ∧ (∀ x ∈ rem, x ∈ allC m))
    (fun x hh => x = .ret ∧ GrC C h hh ∧ hh.get H.nx = some .d ∧ hh.get (h.nx + 1) = some (.c [.b false] 4 none false false 0) ∧ branchP m.owner.length 1 (allC m) = none ∧ ∃ P', CkR hh C o c P' G)
    (by simp (maxSteps := 10000000) (implicitDefEqProofs := false) only [go_sem, get_set, ↓reduceIte, Nat.reduceEqDiff, Nat.reduceAdd, Nat.reduceSub, Nat.reduceMul, Nat.reduceMod, Nat.reduceDiv, Nat.reduceLT, Nat.reduceLeDiff, reduceCtorEq, decide_true, decide_false, Bool.false_eq_true, true_and, and_true, eq_self, Nat.zero_add, Nat.add_zero, Nat.mul_one, Nat.zero_mul, Nat.sub_zero, List.drop_zero, List.nil_append, List.append_nil, List.cons_append, Nat.zero_le] <;> rfl) (fun rem hh hu => ⟨hu.1, hu.2.1⟩)
    (fun rem hh hh' hu gr => by
      obtain ⟨u1, u2, u3, u4, u5, u6, ⟨P, p1, p2, p3, p4⟩, u8⟩ := hu
      exact ⟨u1.trans gr, gr.keep _ _ u2, u3.trans (GrC.of gr), gr.keep _ _ u4, gr.keep _ _ u5, gr.keep _ _ u6, ⟨P, p1, p2, gr.keep _ _ p3, p4⟩, u8⟩) ?_ ?_).mono ?_
  · have gS := ((Gr.refl gcH.ok).add .d)
    refine ⟨((gcH.base gr0 hC).add .d).add _, ?_, (gcH.trans (GrC.of (gS.add _))), ?_, ?_, ?_, ⟨1, Nat.le_refl _, by omega, ?_, rfl⟩, fun x hx => hx⟩
    · rw [hadd_ne _ _ (by show h.nx + 2 ≠ H.nx + 1; omega), hadd_ne _ _ (by omega)]; exact hM
    · rw [hadd_ne _ _ (by show H.nx ≠ H.nx + 1; omega)]; exact hadd_same _ _
    · rw [hadd_ne _ _ (by show h.nx ≠ H.nx + 1; omega), hadd_ne _ _ (by omega)]; exact hB2
    · rw [hadd_ne _ _ (by show h.nx + 1 ≠ H.nx + 1; omega), hadd_ne _ _ (by omega)]; exact hr2
    · show Hp.get _ _ = _
      rw [hadd_ne _ _ (by show C ≠ H.nx + 1; omega), hadd_ne _ _ (by omega)]; exact hc2
  · rintro rdy bsy dn s ch rem hh nv ⟨gr, gM, gc, gd, gB, gR, ⟨P, p1, p2, p3, p4⟩, hmem⟩ hrec hn
    obtain ⟨k1, k2⟩ := hn.num
    have hlt : H.nx + 1 < hh.nx := gr.ok.lt hrec
    obtain ⟨as1, as2⟩ := as (s, ch) (hmem (s, ch) (by simp))
    have hnl : ch.next.length ≤ 1048576 := by
      obtain ⟨l, h1, h2⟩ := mem_allFrom (hmem (s, ch) (by simp))
      exact ((sm.2.2 l h1).2 ch h2).2.2.1
    have eb : branchP m.owner.length P ((s, ch) :: rem) = (match spreadP m.owner.length P ch.next with
      | some P' => branchP m.owner.length P' rem
      | none => none) := rfl
    rw [eb] at p4
    clear eb
    have hv := ((Gr.refl gr.ok).add (.c [.s [], .s [], .sn] 27 none false false 0)).set (j := hh.nx) (Nat.le_refl _) (Nat.lt_succ_self _) (.c [.s ch.act, .s ch.gain, nv] 27 none false false 0)
    have hv1 := hv.keep _ _ hrec
    have aB : hh.at h.nx 0 = some (.p C 0) := by rw [at_of gB]; rfl
    have ckB : CkR (((hh.add (.c [.s [], .s [], .sn] 27 none false false 0)).set hh.nx (.c [.s ch.act, .s ch.gain, nv] 27 none false false 0)).set (H.nx + 1) bsy) C o c (P : Int) G :=
      (hset_ne _ bsy (show C ≠ H.nx + 1 by omega)).trans (hv.keep _ _ p3)
    have grB := (gr.trans hv).set (j := H.nx + 1) (by have := gr0.nx; omega) (by show _ < hh.nx + 1; omega) bsy
    have key := spread_ok grB hl0 C hC o c P G m.owner.length ckB p1 p2 ch.next nv hn hm.1.len hnl as2
    simp (maxSteps := 10000000) (implicitDefEqProofs := false) (disch := first | omega | (simp only [add_nx, set_nx, kill_nx, bump_nx]; omega)) only [go_sem, get_set, ↓reduceIte, Nat.reduceEqDiff, Nat.reduceAdd, Nat.reduceSub, Nat.reduceMul, Nat.reduceMod, Nat.reduceDiv, Nat.reduceLT, Nat.reduceLeDiff, reduceCtorEq, decide_true, decide_false, Bool.false_eq_true, true_and, and_true, eq_self, Nat.zero_add, Nat.add_zero, Nat.mul_one, Nat.zero_mul, Nat.sub_zero, List.drop_zero, List.nil_append, List.append_nil, List.cons_append, Nat.zero_le, wrap64_nat, wrap64_int, wrap8u_lt, wrap32u_lt, wrap64u_lt, subI_nat, ixs_at, slcS_at, ia_sl, ia_ar, hadd_eq, hadd_ne, hset_eq, hset_ne, hkill_ne, at_add_same, at_add_ne, at_set_same, at_set_ne, at_kill_ne, mks_ok, bin_s_add, l76_0, k1, k2, hrec, hv1, aB]
    refine key.mono ?_
    rintro v h2 ⟨gc2, hres⟩
    have b2 := gc2.keep _ _ (by omega) (hset_same _ _ bsy)
    have d2 := gc2.keep _ _ (by omega) ((hset_ne _ bsy (show H.nx ≠ H.nx + 1 by omega)).trans (hv.keep _ _ gd))
    have r2 := gc2.keep _ _ (by omega) ((hset_ne _ bsy (show h.nx + 1 ≠ H.nx + 1 by omega)).trans (hv.keep _ _ gR))
    have m2 := gc2.keep _ _ (by omega) ((hset_ne _ bsy (show h.nx + 2 ≠ H.nx + 1 by omega)).trans (hv.keep _ _ gM))
    have B2 := gc2.keep _ _ (by omega) ((hset_ne _ bsy (show h.nx ≠ H.nx + 1 by omega)).trans (hv.keep _ _ gB))
    have hl2 := gc2.ok.lt b2
    have gF : Gr h0 h2 := gc2.base grB hC
    have gcB : GrC C h (((hh.add (.c [.s [], .s [], .sn] 27 none false false 0)).set hh.nx (.c [.s ch.act, .s ch.gain, nv] 27 none false false 0)).set (H.nx + 1) bsy) := by
      refine ⟨grB.ok, fun id ob ne e => ?_, by have := (gc.trans (GrC.of hv)).nx; exact this, ok⟩
      have := ok.lt e
      rw [hset_ne _ _ (by omega)]
      exact hv.keep _ _ (gc.keep _ _ ne e)
    have gcF := gcB.trans gc2
    have setl : ∀ (hx : Hp) (ob : O), GrC C h hx → H.nx + 1 < hx.nx → GrC C h (hx.set (H.nx + 1) ob) := fun hx ob g hlx =>
      ⟨g.ok.set hlx ob, fun id ob' ne e => by have := ok.lt e; rw [hset_ne _ _ (by omega)]; exact g.keep _ _ ne e, g.nx, ok⟩
    have setr : ∀ (hx : Hp) (ob : O), GrC C h hx → h.nx + 1 < hx.nx → GrC C h (hx.set (h.nx + 1) ob) := fun hx ob g hlx =>
      ⟨g.ok.set hlx ob, fun id ob' ne e => by have := ok.lt e; rw [hset_ne _ _ (by omega)]; exact g.keep _ _ ne e, g.nx, ok⟩
    rcases hres with ⟨rfl, P', hs, ck2⟩ | ⟨rfl, hs, P', ck2⟩
    · rw [hs] at p4
      dsimp only at p4
      obtain ⟨q1, q2⟩ := spreadP_pos hs p1 p2
      simp (maxSteps := 10000000) (implicitDefEqProofs := false) (disch := first | omega | (simp only [add_nx, set_nx, kill_nx, bump_nx]; omega)) only [go_sem, get_set, ↓reduceIte, Nat.reduceEqDiff, Nat.reduceAdd, Nat.reduceSub, Nat.reduceMul, Nat.reduceMod, Nat.reduceDiv, Nat.reduceLT, Nat.reduceLeDiff, reduceCtorEq, decide_true, decide_false, Bool.false_eq_true, true_and, and_true, eq_self, Nat.zero_add, Nat.add_zero, Nat.mul_one, Nat.zero_mul, Nat.sub_zero, List.drop_zero, List.nil_append, List.append_nil, List.cons_append, Nat.zero_le, wrap64_nat, wrap64_int, wrap8u_lt, wrap32u_lt, wrap64u_lt, subI_nat, ixs_at, slcS_at, ia_sl, ia_ar, hadd_eq, hadd_ne, hset_eq, hset_ne, hkill_ne, at_add_same, at_add_ne, at_set_same, at_set_ne, at_kill_ne, mks_ok, bin_s_add, b2]
      refine ⟨gF.set (by have := gr0.nx; omega) hl2 _, ?_, setl _ _ gcF hl2, ?_, ?_, ?_, ⟨P', q1, q2, (hset_ne _ _ (show C ≠ H.nx + 1 by omega)).trans ck2, p4⟩, fun x hx => hmem x (List.mem_cons_of_mem _ hx)⟩
      · simp (maxSteps := 10000000) (implicitDefEqProofs := false) (disch := first | omega | (simp only [add_nx, set_nx, kill_nx, bump_nx]; omega)) only [go_sem, get_set, ↓reduceIte, Nat.reduceEqDiff, Nat.reduceAdd, Nat.reduceSub, Nat.reduceMul, Nat.reduceMod, Nat.reduceDiv, Nat.reduceLT, Nat.reduceLeDiff, reduceCtorEq, decide_true, decide_false, Bool.false_eq_true, true_and, and_true, eq_self, Nat.zero_add, Nat.add_zero, Nat.mul_one, Nat.zero_mul, Nat.sub_zero, List.drop_zero, List.nil_append, List.append_nil, List.cons_append, Nat.zero_le, wrap64_nat, wrap64_int, wrap8u_lt, wrap32u_lt, wrap64u_lt, subI_nat, ixs_at, slcS_at, ia_sl, ia_ar, hadd_eq, hadd_ne, hset_eq, hset_ne, hkill_ne, at_add_same, at_add_ne, at_set_same, at_set_ne, at_kill_ne, mks_ok, bin_s_add, m2]
      · simp (maxSteps := 10000000) (implicitDefEqProofs := false) (disch := first | omega | (simp only [add_nx, set_nx, kill_nx, bump_nx]; omega)) only [go_sem, get_set, ↓reduceIte, Nat.reduceEqDiff, Nat.reduceAdd, Nat.reduceSub, Nat.reduceMul, Nat.reduceMod, Nat.reduceDiv, Nat.reduceLT, Nat.reduceLeDiff, reduceCtorEq, decide_true, decide_false, Bool.false_eq_true, true_and, and_true, eq_self, Nat.zero_add, Nat.add_zero, Nat.mul_one, Nat.zero_mul, Nat.sub_zero, List.drop_zero, List.nil_append, List.append_nil, List.cons_append, Nat.zero_le, wrap64_nat, wrap64_int, wrap8u_lt, wrap32u_lt, wrap64u_lt, subI_nat, ixs_at, slcS_at, ia_sl, ia_ar, hadd_eq, hadd_ne, hset_eq, hset_ne, hkill_ne, at_add_same, at_add_ne, at_set_same, at_set_ne, at_kill_ne, mks_ok, bin_s_add, d2]
      · simp (maxSteps := 10000000) (implicitDefEqProofs := false) (disch := first | omega | (simp only [add_nx, set_nx, kill_nx, bump_nx]; omega)) only [go_sem, get_set, ↓reduceIte, Nat.reduceEqDiff, Nat.reduceAdd, Nat.reduceSub, Nat.reduceMul, Nat.reduceMod, Nat.reduceDiv, Nat.reduceLT, Nat.reduceLeDiff, reduceCtorEq, decide_true, decide_false, Bool.false_eq_true, true_and, and_true, eq_self, Nat.zero_add, Nat.add_zero, Nat.mul_one, Nat.zero_mul, Nat.sub_zero, List.drop_zero, List.nil_append, List.append_nil, List.cons_append, Nat.zero_le, wrap64_nat, wrap64_int, wrap8u_lt, wrap32u_lt, wrap64u_lt, subI_nat, ixs_at, slcS_at, ia_sl, ia_ar, hadd_eq, hadd_ne, hset_eq, hset_ne, hkill_ne, at_add_same, at_add_ne, at_set_same, at_set_ne, at_kill_ne, mks_ok, bin_s_add, B2]
      · simp (maxSteps := 10000000) (implicitDefEqProofs := false) (disch := first | omega | (simp only [add_nx, set_nx, kill_nx, bump_nx]; omega)) only [go_sem, get_set, ↓reduceIte, Nat.reduceEqDiff, Nat.reduceAdd, Nat.reduceSub, Nat.reduceMul, Nat.reduceMod, Nat.reduceDiv, Nat.reduceLT, Nat.reduceLeDiff, reduceCtorEq, decide_true, decide_false, Bool.false_eq_true, true_and, and_true, eq_self, Nat.zero_add, Nat.add_zero, Nat.mul_one, Nat.zero_mul, Nat.sub_zero, List.drop_zero, List.nil_append, List.append_nil, List.cons_append, Nat.zero_le, wrap64_nat, wrap64_int, wrap8u_lt, wrap32u_lt, wrap64u_lt, subI_nat, ixs_at, slcS_at, ia_sl, ia_ar, hadd_eq, hadd_ne, hset_eq, hset_ne, hkill_ne, at_add_same, at_add_ne, at_set_same, at_set_ne, at_kill_ne, mks_ok, bin_s_add, r2]
    · rw [hs] at p4
      dsimp only at p4
      simp (maxSteps := 10000000) (implicitDefEqProofs := false) (disch := first | omega | (simp only [add_nx, set_nx, kill_nx, bump_nx]; omega)) only [go_sem, get_set, ↓reduceIte, Nat.reduceEqDiff, Nat.reduceAdd, Nat.reduceSub, Nat.reduceMul, Nat.reduceMod, Nat.reduceDiv, Nat.reduceLT, Nat.reduceLeDiff, reduceCtorEq, decide_true, decide_false, Bool.false_eq_true, true_and, and_true, eq_self, Nat.zero_add, Nat.add_zero, Nat.mul_one, Nat.zero_mul, Nat.sub_zero, List.drop_zero, List.nil_append, List.append_nil, List.cons_append, Nat.zero_le, wrap64_nat, wrap64_int, wrap8u_lt, wrap32u_lt, wrap64u_lt, subI_nat, ixs_at, slcS_at, ia_sl, ia_ar, hadd_eq, hadd_ne, hset_eq, hset_ne, hkill_ne, at_add_same, at_add_ne, at_set_same, at_set_ne, at_kill_ne, mks_ok, bin_s_add, r2, b2]
      refine ⟨setl _ _ (setr _ _ gcF (by omega)) hl2, ?_, p4, P', ?_⟩
      · simp (maxSteps := 10000000) (implicitDefEqProofs := false) (disch := first | omega | (simp only [add_nx, set_nx, kill_nx, bump_nx]; omega)) only [go_sem, get_set, ↓reduceIte, Nat.reduceEqDiff, Nat.reduceAdd, Nat.reduceSub, Nat.reduceMul, Nat.reduceMod, Nat.reduceDiv, Nat.reduceLT, Nat.reduceLeDiff, reduceCtorEq, decide_true, decide_false, Bool.false_eq_true, true_and, and_true, eq_self, Nat.zero_add, Nat.add_zero, Nat.mul_one, Nat.zero_mul, Nat.sub_zero, List.drop_zero, List.nil_append, List.append_nil, List.cons_append, Nat.zero_le, wrap64_nat, wrap64_int, wrap8u_lt, wrap32u_lt, wrap64u_lt, subI_nat, ixs_at, slcS_at, ia_sl, ia_ar, hadd_eq, hadd_ne, hset_eq, hset_ne, hkill_ne, at_add_same, at_add_ne, at_set_same, at_set_ne, at_kill_ne, mks_ok, bin_s_add, d2]
      · exact (hset_ne _ _ (show C ≠ H.nx + 1 by omega)).trans ((hset_ne _ _ (show C ≠ h.nx + 1 by omega)).trans ck2)
  · have setr : ∀ (hx : Hp) (ob : O), GrC C h hx → h.nx + 1 < hx.nx → GrC C h (hx.set (h.nx + 1) ob) := fun hx ob g hlx =>
      ⟨g.ok.set hlx ob, fun id ob' ne e => by have := ok.lt e; rw [hset_ne _ _ (by omega)]; exact g.keep _ _ ne e, g.nx, ok⟩
    have kil : ∀ (hx : Hp) (j : Nat), GrC C h hx → h.nx ≤ j → GrC C h (hx.kill j) := fun hx j g hj =>
      ⟨g.ok.kill j, fun id ob' ne e => by have := ok.lt e; rw [hkill_ne _ (by omega)]; exact g.keep _ _ ne e, g.nx, ok⟩
    rintro e ⟨tm, df, h'⟩ ⟨rfl, rfl, ⟨rfl, h1, ⟨gr, gM, gc, gd, gB, gR, ⟨P, p1, p2, p3, p4⟩, _⟩, rfl⟩ | ⟨h1, hne, ⟨rfl, gc, gd, gR, hnb, P', ck2⟩, rfl⟩⟩
    · have d1 : (h1.kill (H.nx + 1)).get H.nx = some .d := by rw [hkill_ne _ (by omega)]; exact gd
      have r1 : (h1.kill (H.nx + 1)).get (h.nx + 1) = some (.c [.b false] 4 none false false 0) := by rw [hkill_ne _ (by omega)]; exact gR
      have ek : takeDf [H.nx] ((h1.kill (H.nx + 1)).set (h.nx + 1) (.c [.b true] 4 none false false 0)) = some (((h1.kill (H.nx + 1)).set (h.nx + 1) (.c [.b true] 4 none false false 0)).kill H.nx) := by
        simp only [takeDf, hset_ne _ _ (show H.nx ≠ h.nx + 1 by omega), d1]
      have hlr := gr.ok.lt gR
      have hCne : C < h.nx := hCl
      simp (maxSteps := 10000000) (implicitDefEqProofs := false) (disch := first | omega | (simp only [add_nx, set_nx, kill_nx, bump_nx]; omega)) only [go_sem, get_set, ↓reduceIte, Nat.reduceEqDiff, Nat.reduceAdd, Nat.reduceSub, Nat.reduceMul, Nat.reduceMod, Nat.reduceDiv, Nat.reduceLT, Nat.reduceLeDiff, reduceCtorEq, decide_true, decide_false, Bool.false_eq_true, true_and, and_true, eq_self, Nat.zero_add, Nat.add_zero, Nat.mul_one, Nat.zero_mul, Nat.sub_zero, List.drop_zero, List.nil_append, List.append_nil, List.cons_append, Nat.zero_le, wrap64_nat, wrap64_int, wrap8u_lt, wrap32u_lt, wrap64u_lt, subI_nat, ixs_at, slcS_at, ia_sl, ia_ar, hadd_eq, hadd_ne, hset_eq, hset_ne, hkill_ne, at_add_same, at_add_ne, at_set_same, at_set_ne, at_kill_ne, mks_ok, bin_s_add, r1, ek]
      refine ⟨kil _ _ (setr _ _ (kil _ _ gc (by omega)) hlr) (by omega), .inl ⟨P, p4, ?_⟩⟩
      exact (hkill_ne _ (show C ≠ H.nx by omega)).trans ((hset_ne _ _ (show C ≠ h.nx + 1 by omega)).trans ((hkill_ne _ (show C ≠ H.nx + 1 by omega)).trans p3))
    · have d1 : (h1.kill (H.nx + 1)).get H.nx = some .d := by rw [hkill_ne _ (by omega)]; exact gd
      have ek : takeDf [H.nx] (h1.kill (H.nx + 1)) = some ((h1.kill (H.nx + 1)).kill H.nx) := by
        simp only [takeDf, d1]
      have a1 : h1.at (h.nx + 1) 0 = some (.b false) := by rw [at_of gR]; rfl
      simp (maxSteps := 10000000) (implicitDefEqProofs := false) (disch := first | omega | (simp only [add_nx, set_nx, kill_nx, bump_nx]; omega)) only [go_sem, get_set, ↓reduceIte, Nat.reduceEqDiff, Nat.reduceAdd, Nat.reduceSub, Nat.reduceMul, Nat.reduceMod, Nat.reduceDiv, Nat.reduceLT, Nat.reduceLeDiff, reduceCtorEq, decide_true, decide_false, Bool.false_eq_true, true_and, and_true, eq_self, Nat.zero_add, Nat.add_zero, Nat.mul_one, Nat.zero_mul, Nat.sub_zero, List.drop_zero, List.nil_append, List.append_nil, List.cons_append, Nat.zero_le, wrap64_nat, wrap64_int, wrap8u_lt, wrap32u_lt, wrap64u_lt, subI_nat, ixs_at, slcS_at, ia_sl, ia_ar, hadd_eq, hadd_ne, hset_eq, hset_ne, hkill_ne, at_add_same, at_add_ne, at_set_same, at_set_ne, at_kill_ne, mks_ok, bin_s_add, ek, a1]
      refine ⟨kil _ _ (kil _ _ gc (by omega)) (by omega), .inr ⟨hnb, P', ?_⟩⟩
      exact (hkill_ne _ (show C ≠ H.nx by omega)).trans ((hkill_ne _ (show C ≠ H.nx + 1 by omega)).trans ck2)
end Go.Proofs.YtgnpoaoekhplhaaGreatDoor.AE.Tst
set_option linter.unusedVariables false
set_option linter.unusedSimpArgs false
namespace Go.Proofs.YtgnpoaoekhplhaaGreatDoor.AE.Tst
open Go Go.Proofs.YtgnpoaoekhplhaaGreatDoor.AE Go.Proofs.YtgnpoaoekhplhaaGreatDoor.AE.Sim

@[go_sem] theorem putAt_3 (x x1 x2 x3 y : V) (l ys : List V) : putAt (x :: x1 :: x2 :: x3 :: l) 3 (y :: ys) = (match putAt (x3 :: l) 0 (y :: ys) with
    | some r => some (x :: x1 :: x2 :: r)
    | none => none) := by
  rw [putAt_s x y (x1 :: x2 :: x3 :: l) ys 2, putAt_2]
  cases putAt (x3 :: l) 0 (y :: ys) <;> rfl
def gainP : Nat → List (Nat × Ch) → Option Nat
  | G, [] => some G
  | G, x :: rest => if (smallP x.2.gain).2.2 = false ∨ (smallP x.2.gain).1 < 0 then none
    else if G / Nat.gcd (smallP x.2.gain).2.1 G * (smallP x.2.gain).2.1 ≤ 9999 then gainP (G / Nat.gcd (smallP x.2.gain).2.1 G * (smallP x.2.gain).2.1) rest else none

theorem gained_ok {h0 h : Hp} (gr0 : Gr h0 h) (hl0 : laidB h0 L11 = true) (C : Nat) (hC : h0.nx ≤ C) (o c : V) (p : Int) (G0 : Int) (m : Mo) (ck : CkR h C o c p G0) (hm : MoR h0 o c m) (sm : SmallMo m) (as : AllSmall m) :
    Yv (E (.call 75 [.p C 0] h)) fun v h' => GrC C h h' ∧ ((v = .b true ∧ ∃ P', gainP 1 (allC m) = some P' ∧ CkR h' C o c p (P' : Int)) ∨ (v = .b false ∧ gainP 1 (allC m) = none ∧ ∃ P', CkR h' C o c p P')) := by
  have n0 := hm.1.num.1
  have n1 := hm.2.num.1
  have ok := gr0.ok
  have hCl := ok.lt ck
  rw [e75]
  have g1 := ((Gr.refl ok).add (.c [.p C 0] 82 none false false 0)).add (.c [.b false] 4 none false false 0)
  have ck1 := g1.keep _ _ ck
  simp (maxSteps := 10000000) (implicitDefEqProofs := false) (disch := first | omega | (simp only [add_nx, set_nx, kill_nx, bump_nx]; omega)) only [go_sem, get_set, ↓reduceIte, Nat.reduceEqDiff, Nat.reduceAdd, Nat.reduceSub, Nat.reduceMul, Nat.reduceMod, Nat.reduceDiv, Nat.reduceLT, Nat.reduceLeDiff, reduceCtorEq, decide_true, decide_false, Bool.false_eq_true, true_and, and_true, eq_self, Nat.zero_add, Nat.add_zero, Nat.mul_one, Nat.zero_mul, Nat.sub_zero, List.drop_zero, List.nil_append, List.append_nil, List.cons_append, Nat.zero_le, wrap64_nat, wrap64_int, wrap8u_lt, wrap32u_lt, wrap64u_lt, subI_nat, ixs_at, slcS_at, ia_sl, ia_ar, hadd_eq, hadd_ne, hset_eq, hset_ne, hkill_ne, at_add_same, at_add_ne, at_set_same, at_set_ne, at_kill_ne, mks_ok, bin_s_add, b75, ck1, all_ok, n0, n1]
  have gcx := (GrC.of (C := C) g1).setC (by show C < h.nx + 1 + 1; omega) (.c [o, c, .i .i64 p, .i .i64 ((1 : Nat) : Int)] 86 none false false 0)
  have gr1 := gcx.base gr0 hC
  have hB1 : ((h.add (.c [.p C 0] 82 none false false 0)).add (.c [.b false] 4 none false false 0)).get h.nx = some (.c [.p C 0] 82 none false false 0) := by
    rw [hadd_ne _ _ (by show h.nx ≠ h.nx + 1; omega)]; exact hadd_same _ _
  have hr1 : ((h.add (.c [.p C 0] 82 none false false 0)).add (.c [.b false] 4 none false false 0)).get (h.nx + 1) = some (.c [.b false] 4 none false false 0) := hadd_same (h.add _) _
  have g2 := (Gr.refl gcx.ok).add (.c [o, c] 32 none false false 0)
  have hM := hadd_same (((h.add (.c [.p C 0] 82 none false false 0)).add (.c [.b false] 4 none false false 0)).set C (.c [o, c, .i .i64 p, .i .i64 ((1 : Nat) : Int)] 86 none false false 0)) (.c [o, c] 32 none false false 0)
  have hB2 := g2.keep _ _ ((hset_ne _ (.c [o, c, .i .i64 p, .i .i64 ((1 : Nat) : Int)] 86 none false false 0) (show h.nx ≠ C by omega)).trans hB1)
  have hr2 := g2.keep _ _ ((hset_ne _ (.c [o, c, .i .i64 p, .i .i64 ((1 : Nat) : Int)] 86 none false false 0) (show h.nx + 1 ≠ C by omega)).trans hr1)
  have hc2 := g2.keep _ _ (hset_same ((h.add (.c [.p C 0] 82 none false false 0)).add (.c [.b false] 4 none false false 0)) C (.c [o, c, .i .i64 p, .i .i64 ((1 : Nat) : Int)] 86 none false false 0))
  have hMn : (((h.add (.c [.p C 0] 82 none false false 0)).add (.c [.b false] 4 none false false 0)).set C (.c [o, c, .i .i64 p, .i .i64 ((1 : Nat) : Int)] 86 none false false 0)).nx = h.nx + 2 := rfl
  rw [hMn] at hM
  have gcH := gcx.trans (GrC.of g2)
  have hHn : ((((h.add (.c [.p C 0] 82 none false false 0)).add (.c [.b false] 4 none false false 0)).set C (.c [o, c, .i .i64 p, .i .i64 ((1 : Nat) : Int)] 86 none false false 0)).add (.c [o, c] 32 none false false 0)).nx = h.nx + 3 := rfl
  generalize (((h.add (.c [.p C 0] 82 none false false 0)).add (.c [.b false] 4 none false false 0)).set C (.c [o, c, .i .i64 p, .i .i64 ((1 : Nat) : Int)] 86 none false false 0)).add (.c [o, c] 32 none false false 0) = H at hM hB2 hr2 hc2 gcH hHn ⊢
  clear hB1 hr1 g2 gr1 gcx ck1 g1
  refine (rf_all (m := m) hm sm.loops
    (fun rem hh => Gr h0 hh ∧ hh.get (h.nx + 2) = some (.c [o, c] 32 none false false 0) ∧ GrC C h hh ∧ hh.get H.nx = some .d ∧ hh.get h.nx = some (.c [.p C 0] 82 none false false 0) ∧ hh.get (h.nx + 1) = some (.c [.b false] 4 none false false 0) ∧
      (∃ P : Nat, 1 ≤ P ∧ P ≤ 9999 ∧ CkR hh C o c p (P : Int) ∧ gainP 1 (allC m) = gainP P rem) ∧ (∀ x ∈ rem, x ∈ allC m))
    (fun x hh => x = .ret ∧ GrC C h hh ∧ hh.get H.nx = some .d ∧ hh.get (h.nx + 1) = some (.c [.b false] 4 none false false 0) ∧ gainP 1 (allC m) = none ∧ ∃ P', CkR hh C o c p P')
    (by simp (maxSteps := 10000000) (implicitDefEqProofs := false) only [go_sem, get_set, ↓reduceIte, Nat.reduceEqDiff, Nat.reduceAdd, Nat.reduceSub, Nat.reduceMul, Nat.reduceMod, Nat.reduceDiv, Nat.reduceLT, Nat.reduceLeDiff, reduceCtorEq, decide_true, decide_false, Bool.false_eq_true, true_and, and_true, eq_self, Nat.zero_add, Nat.add_zero, Nat.mul_one, Nat.zero_mul, Nat.sub_zero, List.drop_zero, List.nil_append, List.append_nil, List.cons_append, Nat.zero_le] <;> rfl) (fun rem hh hu => ⟨hu.1, hu.2.1⟩)
    (fun rem hh hh' hu gr => by
      obtain ⟨u1, u2, u3, u4, u5, u6, ⟨P, p1, p2, p3, p4⟩, u8⟩ := hu
      exact ⟨u1.trans gr, gr.keep _ _ u2, u3.trans (GrC.of gr), gr.keep _ _ u4, gr.keep _ _ u5, gr.keep _ _ u6, ⟨P, p1, p2, gr.keep _ _ p3, p4⟩, u8⟩) ?_ ?_).mono ?_
  · have gS := ((Gr.refl gcH.ok).add .d)
    refine ⟨((gcH.base gr0 hC).add .d).add _, ?_, (gcH.trans (GrC.of (gS.add _))), ?_, ?_, ?_, ⟨1, Nat.le_refl _, by omega, ?_, rfl⟩, fun x hx => hx⟩
    · rw [hadd_ne _ _ (by show h.nx + 2 ≠ H.nx + 1; omega), hadd_ne _ _ (by omega)]; exact hM
    · rw [hadd_ne _ _ (by show H.nx ≠ H.nx + 1; omega)]; exact hadd_same _ _
    · rw [hadd_ne _ _ (by show h.nx ≠ H.nx + 1; omega), hadd_ne _ _ (by omega)]; exact hB2
    · rw [hadd_ne _ _ (by show h.nx + 1 ≠ H.nx + 1; omega), hadd_ne _ _ (by omega)]; exact hr2
    · show Hp.get _ _ = _
      rw [hadd_ne _ _ (by show C ≠ H.nx + 1; omega), hadd_ne _ _ (by omega)]; exact hc2
  · rintro rdy bsy dn s ch rem hh nv ⟨gr, gM, gc, gd, gB, gR, ⟨P, p1, p2, p3, p4⟩, hmem⟩ hrec hn
    obtain ⟨k1, k2⟩ := hn.num
    have hlt : H.nx + 1 < hh.nx := gr.ok.lt hrec
    obtain ⟨as1, as2⟩ := as (s, ch) (hmem (s, ch) (by simp))
    have hnl : ch.next.length ≤ 1048576 := by
      obtain ⟨l, h1, h2⟩ := mem_allFrom (hmem (s, ch) (by simp))
      exact ((sm.2.2 l h1).2 ch h2).2.2.1
    have eb : gainP P ((s, ch) :: rem) = if (smallP ch.gain).2.2 = false ∨ (smallP ch.gain).1 < 0 then none
      else if P / Nat.gcd (smallP ch.gain).2.1 P * (smallP ch.gain).2.1 ≤ 9999 then gainP (P / Nat.gcd (smallP ch.gain).2.1 P * (smallP ch.gain).2.1) rem else none := rfl
    rw [eb] at p4
    clear eb
    have hv := ((Gr.refl gr.ok).add (.c [.s [], .s [], .sn] 27 none false false 0)).set (j := hh.nx) (Nat.le_refl _) (Nat.lt_succ_self _) (.c [.s ch.act, .s ch.gain, nv] 27 none false false 0)
    have hv1 := hv.keep _ _ hrec
    have aB : hh.at h.nx 0 = some (.p C 0) := by rw [at_of gB]; rfl
    have grB := (gr.trans hv).set (j := H.nx + 1) (by have := gr0.nx; omega) (by show _ < hh.nx + 1; omega) bsy
    have key := as1 _ grB.ok (grB.laid hl0)
    simp (maxSteps := 10000000) (implicitDefEqProofs := false) (disch := first | omega | (simp only [add_nx, set_nx, kill_nx, bump_nx]; omega)) only [go_sem, get_set, ↓reduceIte, Nat.reduceEqDiff, Nat.reduceAdd, Nat.reduceSub, Nat.reduceMul, Nat.reduceMod, Nat.reduceDiv, Nat.reduceLT, Nat.reduceLeDiff, reduceCtorEq, decide_true, decide_false, Bool.false_eq_true, true_and, and_true, eq_self, Nat.zero_add, Nat.add_zero, Nat.mul_one, Nat.zero_mul, Nat.sub_zero, List.drop_zero, List.nil_append, List.append_nil, List.cons_append, Nat.zero_le, wrap64_nat, wrap64_int, wrap8u_lt, wrap32u_lt, wrap64u_lt, subI_nat, ixs_at, slcS_at, ia_sl, ia_ar, hadd_eq, hadd_ne, hset_eq, hset_ne, hkill_ne, at_add_same, at_add_ne, at_set_same, at_set_ne, at_kill_ne, mks_ok, bin_s_add, l75_0, k1, k2, hrec, hv1, aB]
    refine key.mono ?_
    rintro v h2 ⟨rfl, gr2⟩
    have ckB : CkR h2 C o c p (P : Int) := gr2.keep _ _ ((hset_ne _ bsy (show C ≠ H.nx + 1 by omega)).trans (hv.keep _ _ p3))
    have b2 := gr2.keep _ _ (hset_same _ _ bsy)
    have d2 := gr2.keep _ _ ((hset_ne _ bsy (show H.nx ≠ H.nx + 1 by omega)).trans (hv.keep _ _ gd))
    have r2 := gr2.keep _ _ ((hset_ne _ bsy (show h.nx + 1 ≠ H.nx + 1 by omega)).trans (hv.keep _ _ gR))
    have m2 := gr2.keep _ _ ((hset_ne _ bsy (show h.nx + 2 ≠ H.nx + 1 by omega)).trans (hv.keep _ _ gM))
    have B2 := gr2.keep _ _ ((hset_ne _ bsy (show h.nx ≠ H.nx + 1 by omega)).trans (hv.keep _ _ gB))
    have aB2 : h2.at h.nx 0 = some (.p C 0) := by rw [at_of B2]; rfl
    have hl2 := gr2.ok.lt b2
    have gF : Gr h0 h2 := grB.trans gr2
    have gcB : GrC C h (((hh.add (.c [.s [], .s [], .sn] 27 none false false 0)).set hh.nx (.c [.s ch.act, .s ch.gain, nv] 27 none false false 0)).set (H.nx + 1) bsy) := by
      refine ⟨grB.ok, fun id ob ne e => ?_, by have := (gc.trans (GrC.of hv)).nx; exact this, ok⟩
      have := ok.lt e
      rw [hset_ne _ _ (by omega)]
      exact hv.keep _ _ (gc.keep _ _ ne e)
    have gcF := gcB.trans (GrC.of (C := C) gr2)
    have setl : ∀ (hx : Hp) (ob : O), GrC C h hx → H.nx + 1 < hx.nx → GrC C h (hx.set (H.nx + 1) ob) := fun hx ob g hlx =>
      ⟨g.ok.set hlx ob, fun id ob' ne e => by have := ok.lt e; rw [hset_ne _ _ (by omega)]; exact g.keep _ _ ne e, g.nx, ok⟩
    have setr : ∀ (hx : Hp) (ob : O), GrC C h hx → h.nx + 1 < hx.nx → GrC C h (hx.set (h.nx + 1) ob) := fun hx ob g hlx =>
      ⟨g.ok.set hlx ob, fun id ob' ne e => by have := ok.lt e; rw [hset_ne _ _ (by omega)]; exact g.keep _ _ ne e, g.nx, ok⟩
    have hsb := small_bounds (q := ch.gain)
    generalize smallP ch.gain = sp at *
    obtain ⟨num, den, isn⟩ := sp
    dsimp only at p4 hsb
    dsimp only
    cases isn
    · rw [if_pos (.inl rfl)] at p4
      simp (maxSteps := 10000000) (implicitDefEqProofs := false) (disch := first | omega | (simp only [add_nx, set_nx, kill_nx, bump_nx]; omega)) only [go_sem, get_set, ↓reduceIte, Nat.reduceEqDiff, Nat.reduceAdd, Nat.reduceSub, Nat.reduceMul, Nat.reduceMod, Nat.reduceDiv, Nat.reduceLT, Nat.reduceLeDiff, reduceCtorEq, decide_true, decide_false, Bool.false_eq_true, true_and, and_true, eq_self, Nat.zero_add, Nat.add_zero, Nat.mul_one, Nat.zero_mul, Nat.sub_zero, List.drop_zero, List.nil_append, List.append_nil, List.cons_append, Nat.zero_le, wrap64_nat, wrap64_int, wrap8u_lt, wrap32u_lt, wrap64u_lt, subI_nat, ixs_at, slcS_at, ia_sl, ia_ar, hadd_eq, hadd_ne, hset_eq, hset_ne, hkill_ne, at_add_same, at_add_ne, at_set_same, at_set_ne, at_kill_ne, mks_ok, bin_s_add, r2, b2]
      refine ⟨setl _ _ (setr _ _ gcF (by omega)) hl2, ?_, p4, ((P : Nat) : Int), ?_⟩
      · simp (maxSteps := 10000000) (implicitDefEqProofs := false) (disch := first | omega | (simp only [add_nx, set_nx, kill_nx, bump_nx]; omega)) only [go_sem, get_set, ↓reduceIte, Nat.reduceEqDiff, Nat.reduceAdd, Nat.reduceSub, Nat.reduceMul, Nat.reduceMod, Nat.reduceDiv, Nat.reduceLT, Nat.reduceLeDiff, reduceCtorEq, decide_true, decide_false, Bool.false_eq_true, true_and, and_true, eq_self, Nat.zero_add, Nat.add_zero, Nat.mul_one, Nat.zero_mul, Nat.sub_zero, List.drop_zero, List.nil_append, List.append_nil, List.cons_append, Nat.zero_le, wrap64_nat, wrap64_int, wrap8u_lt, wrap32u_lt, wrap64u_lt, subI_nat, ixs_at, slcS_at, ia_sl, ia_ar, hadd_eq, hadd_ne, hset_eq, hset_ne, hkill_ne, at_add_same, at_add_ne, at_set_same, at_set_ne, at_kill_ne, mks_ok, bin_s_add, d2]
      · exact (hset_ne _ _ (show C ≠ H.nx + 1 by omega)).trans ((hset_ne _ _ (show C ≠ h.nx + 1 by omega)).trans ckB)
    · obtain ⟨d1, d2', n1', n2'⟩ := hsb rfl
      by_cases x4 : num < ((0 : Nat) : Int)
      · rw [if_pos (.inr (by omega))] at p4
        simp (maxSteps := 10000000) (implicitDefEqProofs := false) (disch := first | omega | (simp only [add_nx, set_nx, kill_nx, bump_nx]; omega)) only [go_sem, get_set, ↓reduceIte, Nat.reduceEqDiff, Nat.reduceAdd, Nat.reduceSub, Nat.reduceMul, Nat.reduceMod, Nat.reduceDiv, Nat.reduceLT, Nat.reduceLeDiff, reduceCtorEq, decide_true, decide_false, Bool.false_eq_true, true_and, and_true, eq_self, Nat.zero_add, Nat.add_zero, Nat.mul_one, Nat.zero_mul, Nat.sub_zero, List.drop_zero, List.nil_append, List.append_nil, List.cons_append, Nat.zero_le, wrap64_nat, wrap64_int, wrap8u_lt, wrap32u_lt, wrap64u_lt, subI_nat, ixs_at, slcS_at, ia_sl, ia_ar, hadd_eq, hadd_ne, hset_eq, hset_ne, hkill_ne, at_add_same, at_add_ne, at_set_same, at_set_ne, at_kill_ne, mks_ok, bin_s_add, r2, b2, x4]
        refine ⟨setl _ _ (setr _ _ gcF (by omega)) hl2, ?_, p4, ((P : Nat) : Int), ?_⟩
        · simp (maxSteps := 10000000) (implicitDefEqProofs := false) (disch := first | omega | (simp only [add_nx, set_nx, kill_nx, bump_nx]; omega)) only [go_sem, get_set, ↓reduceIte, Nat.reduceEqDiff, Nat.reduceAdd, Nat.reduceSub, Nat.reduceMul, Nat.reduceMod, Nat.reduceDiv, Nat.reduceLT, Nat.reduceLeDiff, reduceCtorEq, decide_true, decide_false, Bool.false_eq_true, true_and, and_true, eq_self, Nat.zero_add, Nat.add_zero, Nat.mul_one, Nat.zero_mul, Nat.sub_zero, List.drop_zero, List.nil_append, List.append_nil, List.cons_append, Nat.zero_le, wrap64_nat, wrap64_int, wrap8u_lt, wrap32u_lt, wrap64u_lt, subI_nat, ixs_at, slcS_at, ia_sl, ia_ar, hadd_eq, hadd_ne, hset_eq, hset_ne, hkill_ne, at_add_same, at_add_ne, at_set_same, at_set_ne, at_kill_ne, mks_ok, bin_s_add, d2]
        · exact (hset_ne _ _ (show C ≠ H.nx + 1 by omega)).trans ((hset_ne _ _ (show C ≠ h.nx + 1 by omega)).trans ckB)
      · rw [if_neg (by rintro (h1 | h1) <;> first | omega | cases h1)] at p4
        have hme := meet_ok h2 C 3 _ 86 P den ckB rfl p2 d1 d2'
        have hpos : 1 ≤ P / Nat.gcd den P * den := by
          have h1 : Nat.gcd den P ≤ P := Nat.gcd_le_right _ (by omega)
          have h2 : 0 < Nat.gcd den P := Nat.gcd_pos_of_pos_left _ (by omega)
          have h3 : 1 ≤ P / Nat.gcd den P := (Nat.one_le_div_iff h2).2 h1
          exact Nat.le_trans h3 (Nat.le_mul_of_pos_right _ (by omega))
        have hCl2 : C < h2.nx := gF.ok.lt ckB
        have ck3 : CkR (h2.set C (.c ([o, c, .i .i64 p, .i .i64 ((P : Nat) : Int)].set 3 (.i .i64 ((P / Nat.gcd den P * den : Nat) : Int))) 86 none false false 0)) C o c p ((P / Nat.gcd den P * den : Nat) : Int) := hset_same _ _ _
        have gc3 := gcF.setC hCl2 (.c ([o, c, .i .i64 p, .i .i64 ((P : Nat) : Int)].set 3 (.i .i64 ((P / Nat.gcd den P * den : Nat) : Int))) 86 none false false 0)
        have gF3 := gF.set (j := C) hC hCl2 (.c ([o, c, .i .i64 p, .i .i64 ((P : Nat) : Int)].set 3 (.i .i64 ((P / Nat.gcd den P * den : Nat) : Int))) 86 none false false 0)
        generalize P / Nat.gcd den P * den = q' at *
        by_cases x5 : q' ≤ 9999
        · rw [if_pos x5] at p4
          simp (maxSteps := 10000000) (implicitDefEqProofs := false) (disch := first | omega | (simp only [add_nx, set_nx, kill_nx, bump_nx]; omega)) only [go_sem, get_set, ↓reduceIte, Nat.reduceEqDiff, Nat.reduceAdd, Nat.reduceSub, Nat.reduceMul, Nat.reduceMod, Nat.reduceDiv, Nat.reduceLT, Nat.reduceLeDiff, reduceCtorEq, decide_true, decide_false, Bool.false_eq_true, true_and, and_true, eq_self, Nat.zero_add, Nat.add_zero, Nat.mul_one, Nat.zero_mul, Nat.sub_zero, List.drop_zero, List.nil_append, List.append_nil, List.cons_append, Nat.zero_le, wrap64_nat, wrap64_int, wrap8u_lt, wrap32u_lt, wrap64u_lt, subI_nat, ixs_at, slcS_at, ia_sl, ia_ar, hadd_eq, hadd_ne, hset_eq, hset_ne, hkill_ne, at_add_same, at_add_ne, at_set_same, at_set_ne, at_kill_ne, mks_ok, bin_s_add, b2, x4, aB2, hme, x5]
          refine ⟨gF3.set (by have := gr0.nx; omega) hl2 _, ?_, setl _ _ gc3 hl2, ?_, ?_, ?_, ⟨q', hpos, x5, (hset_ne _ _ (show C ≠ H.nx + 1 by omega)).trans ck3, p4⟩, fun x hx => hmem x (List.mem_cons_of_mem _ hx)⟩
          · simp (maxSteps := 10000000) (implicitDefEqProofs := false) (disch := first | omega | (simp only [add_nx, set_nx, kill_nx, bump_nx]; omega)) only [go_sem, get_set, ↓reduceIte, Nat.reduceEqDiff, Nat.reduceAdd, Nat.reduceSub, Nat.reduceMul, Nat.reduceMod, Nat.reduceDiv, Nat.reduceLT, Nat.reduceLeDiff, reduceCtorEq, decide_true, decide_false, Bool.false_eq_true, true_and, and_true, eq_self, Nat.zero_add, Nat.add_zero, Nat.mul_one, Nat.zero_mul, Nat.sub_zero, List.drop_zero, List.nil_append, List.append_nil, List.cons_append, Nat.zero_le, wrap64_nat, wrap64_int, wrap8u_lt, wrap32u_lt, wrap64u_lt, subI_nat, ixs_at, slcS_at, ia_sl, ia_ar, hadd_eq, hadd_ne, hset_eq, hset_ne, hkill_ne, at_add_same, at_add_ne, at_set_same, at_set_ne, at_kill_ne, mks_ok, bin_s_add, m2]
          · simp (maxSteps := 10000000) (implicitDefEqProofs := false) (disch := first | omega | (simp only [add_nx, set_nx, kill_nx, bump_nx]; omega)) only [go_sem, get_set, ↓reduceIte, Nat.reduceEqDiff, Nat.reduceAdd, Nat.reduceSub, Nat.reduceMul, Nat.reduceMod, Nat.reduceDiv, Nat.reduceLT, Nat.reduceLeDiff, reduceCtorEq, decide_true, decide_false, Bool.false_eq_true, true_and, and_true, eq_self, Nat.zero_add, Nat.add_zero, Nat.mul_one, Nat.zero_mul, Nat.sub_zero, List.drop_zero, List.nil_append, List.append_nil, List.cons_append, Nat.zero_le, wrap64_nat, wrap64_int, wrap8u_lt, wrap32u_lt, wrap64u_lt, subI_nat, ixs_at, slcS_at, ia_sl, ia_ar, hadd_eq, hadd_ne, hset_eq, hset_ne, hkill_ne, at_add_same, at_add_ne, at_set_same, at_set_ne, at_kill_ne, mks_ok, bin_s_add, d2]
          · simp (maxSteps := 10000000) (implicitDefEqProofs := false) (disch := first | omega | (simp only [add_nx, set_nx, kill_nx, bump_nx]; omega)) only [go_sem, get_set, ↓reduceIte, Nat.reduceEqDiff, Nat.reduceAdd, Nat.reduceSub, Nat.reduceMul, Nat.reduceMod, Nat.reduceDiv, Nat.reduceLT, Nat.reduceLeDiff, reduceCtorEq, decide_true, decide_false, Bool.false_eq_true, true_and, and_true, eq_self, Nat.zero_add, Nat.add_zero, Nat.mul_one, Nat.zero_mul, Nat.sub_zero, List.drop_zero, List.nil_append, List.append_nil, List.cons_append, Nat.zero_le, wrap64_nat, wrap64_int, wrap8u_lt, wrap32u_lt, wrap64u_lt, subI_nat, ixs_at, slcS_at, ia_sl, ia_ar, hadd_eq, hadd_ne, hset_eq, hset_ne, hkill_ne, at_add_same, at_add_ne, at_set_same, at_set_ne, at_kill_ne, mks_ok, bin_s_add, B2]
          · simp (maxSteps := 10000000) (implicitDefEqProofs := false) (disch := first | omega | (simp only [add_nx, set_nx, kill_nx, bump_nx]; omega)) only [go_sem, get_set, ↓reduceIte, Nat.reduceEqDiff, Nat.reduceAdd, Nat.reduceSub, Nat.reduceMul, Nat.reduceMod, Nat.reduceDiv, Nat.reduceLT, Nat.reduceLeDiff, reduceCtorEq, decide_true, decide_false, Bool.false_eq_true, true_and, and_true, eq_self, Nat.zero_add, Nat.add_zero, Nat.mul_one, Nat.zero_mul, Nat.sub_zero, List.drop_zero, List.nil_append, List.append_nil, List.cons_append, Nat.zero_le, wrap64_nat, wrap64_int, wrap8u_lt, wrap32u_lt, wrap64u_lt, subI_nat, ixs_at, slcS_at, ia_sl, ia_ar, hadd_eq, hadd_ne, hset_eq, hset_ne, hkill_ne, at_add_same, at_add_ne, at_set_same, at_set_ne, at_kill_ne, mks_ok, bin_s_add, r2]
        · rw [if_neg x5] at p4
          simp (maxSteps := 10000000) (implicitDefEqProofs := false) (disch := first | omega | (simp only [add_nx, set_nx, kill_nx, bump_nx]; omega)) only [go_sem, get_set, ↓reduceIte, Nat.reduceEqDiff, Nat.reduceAdd, Nat.reduceSub, Nat.reduceMul, Nat.reduceMod, Nat.reduceDiv, Nat.reduceLT, Nat.reduceLeDiff, reduceCtorEq, decide_true, decide_false, Bool.false_eq_true, true_and, and_true, eq_self, Nat.zero_add, Nat.add_zero, Nat.mul_one, Nat.zero_mul, Nat.sub_zero, List.drop_zero, List.nil_append, List.append_nil, List.cons_append, Nat.zero_le, wrap64_nat, wrap64_int, wrap8u_lt, wrap32u_lt, wrap64u_lt, subI_nat, ixs_at, slcS_at, ia_sl, ia_ar, hadd_eq, hadd_ne, hset_eq, hset_ne, hkill_ne, at_add_same, at_add_ne, at_set_same, at_set_ne, at_kill_ne, mks_ok, bin_s_add, r2, b2, x4, aB2, hme, x5]
          refine ⟨setl _ _ (setr _ _ gc3 (by show h.nx + 1 < h2.nx; omega)) hl2, ?_, p4, ((q' : Nat) : Int), ?_⟩
          · simp (maxSteps := 10000000) (implicitDefEqProofs := false) (disch := first | omega | (simp only [add_nx, set_nx, kill_nx, bump_nx]; omega)) only [go_sem, get_set, ↓reduceIte, Nat.reduceEqDiff, Nat.reduceAdd, Nat.reduceSub, Nat.reduceMul, Nat.reduceMod, Nat.reduceDiv, Nat.reduceLT, Nat.reduceLeDiff, reduceCtorEq, decide_true, decide_false, Bool.false_eq_true, true_and, and_true, eq_self, Nat.zero_add, Nat.add_zero, Nat.mul_one, Nat.zero_mul, Nat.sub_zero, List.drop_zero, List.nil_append, List.append_nil, List.cons_append, Nat.zero_le, wrap64_nat, wrap64_int, wrap8u_lt, wrap32u_lt, wrap64u_lt, subI_nat, ixs_at, slcS_at, ia_sl, ia_ar, hadd_eq, hadd_ne, hset_eq, hset_ne, hkill_ne, at_add_same, at_add_ne, at_set_same, at_set_ne, at_kill_ne, mks_ok, bin_s_add, d2]
          · exact (hset_ne _ _ (show C ≠ H.nx + 1 by omega)).trans ((hset_ne _ _ (show C ≠ h.nx + 1 by omega)).trans ck3)
  · have setr : ∀ (hx : Hp) (ob : O), GrC C h hx → h.nx + 1 < hx.nx → GrC C h (hx.set (h.nx + 1) ob) := fun hx ob g hlx =>
      ⟨g.ok.set hlx ob, fun id ob' ne e => by have := ok.lt e; rw [hset_ne _ _ (by omega)]; exact g.keep _ _ ne e, g.nx, ok⟩
    have kil : ∀ (hx : Hp) (j : Nat), GrC C h hx → h.nx ≤ j → GrC C h (hx.kill j) := fun hx j g hj =>
      ⟨g.ok.kill j, fun id ob' ne e => by have := ok.lt e; rw [hkill_ne _ (by omega)]; exact g.keep _ _ ne e, g.nx, ok⟩
    rintro e ⟨tm, df, h'⟩ ⟨rfl, rfl, ⟨rfl, h1, ⟨gr, gM, gc, gd, gB, gR, ⟨P, p1, p2, p3, p4⟩, _⟩, rfl⟩ | ⟨h1, hne, ⟨rfl, gc, gd, gR, hnb, P', ck2⟩, rfl⟩⟩
    · have d1 : (h1.kill (H.nx + 1)).get H.nx = some .d := by rw [hkill_ne _ (by omega)]; exact gd
      have r1 : (h1.kill (H.nx + 1)).get (h.nx + 1) = some (.c [.b false] 4 none false false 0) := by rw [hkill_ne _ (by omega)]; exact gR
      have ek : takeDf [H.nx] ((h1.kill (H.nx + 1)).set (h.nx + 1) (.c [.b true] 4 none false false 0)) = some (((h1.kill (H.nx + 1)).set (h.nx + 1) (.c [.b true] 4 none false false 0)).kill H.nx) := by
        simp only [takeDf, hset_ne _ _ (show H.nx ≠ h.nx + 1 by omega), d1]
      have hlr := gr.ok.lt gR
      have hCne : C < h.nx := hCl
      simp (maxSteps := 10000000) (implicitDefEqProofs := false) (disch := first | omega | (simp only [add_nx, set_nx, kill_nx, bump_nx]; omega)) only [go_sem, get_set, ↓reduceIte, Nat.reduceEqDiff, Nat.reduceAdd, Nat.reduceSub, Nat.reduceMul, Nat.reduceMod, Nat.reduceDiv, Nat.reduceLT, Nat.reduceLeDiff, reduceCtorEq, decide_true, decide_false, Bool.false_eq_true, true_and, and_true, eq_self, Nat.zero_add, Nat.add_zero, Nat.mul_one, Nat.zero_mul, Nat.sub_zero, List.drop_zero, List.nil_append, List.append_nil, List.cons_append, Nat.zero_le, wrap64_nat, wrap64_int, wrap8u_lt, wrap32u_lt, wrap64u_lt, subI_nat, ixs_at, slcS_at, ia_sl, ia_ar, hadd_eq, hadd_ne, hset_eq, hset_ne, hkill_ne, at_add_same, at_add_ne, at_set_same, at_set_ne, at_kill_ne, mks_ok, bin_s_add, r1, ek]
      refine ⟨kil _ _ (setr _ _ (kil _ _ gc (by omega)) hlr) (by omega), .inl ⟨P, p4, ?_⟩⟩
      exact (hkill_ne _ (show C ≠ H.nx by omega)).trans ((hset_ne _ _ (show C ≠ h.nx + 1 by omega)).trans ((hkill_ne _ (show C ≠ H.nx + 1 by omega)).trans p3))
    · have d1 : (h1.kill (H.nx + 1)).get H.nx = some .d := by rw [hkill_ne _ (by omega)]; exact gd
      have ek : takeDf [H.nx] (h1.kill (H.nx + 1)) = some ((h1.kill (H.nx + 1)).kill H.nx) := by
        simp only [takeDf, d1]
      have a1 : h1.at (h.nx + 1) 0 = some (.b false) := by rw [at_of gR]; rfl
      simp (maxSteps := 10000000) (implicitDefEqProofs := false) (disch := first | omega | (simp only [add_nx, set_nx, kill_nx, bump_nx]; omega)) only [go_sem, get_set, ↓reduceIte, Nat.reduceEqDiff, Nat.reduceAdd, Nat.reduceSub, Nat.reduceMul, Nat.reduceMod, Nat.reduceDiv, Nat.reduceLT, Nat.reduceLeDiff, reduceCtorEq, decide_true, decide_false, Bool.false_eq_true, true_and, and_true, eq_self, Nat.zero_add, Nat.add_zero, Nat.mul_one, Nat.zero_mul, Nat.sub_zero, List.drop_zero, List.nil_append, List.append_nil, List.cons_append, Nat.zero_le, wrap64_nat, wrap64_int, wrap8u_lt, wrap32u_lt, wrap64u_lt, subI_nat, ixs_at, slcS_at, ia_sl, ia_ar, hadd_eq, hadd_ne, hset_eq, hset_ne, hkill_ne, at_add_same, at_add_ne, at_set_same, at_set_ne, at_kill_ne, mks_ok, bin_s_add, ek, a1]
      refine ⟨kil _ _ (kil _ _ gc (by omega)) (by omega), .inr ⟨hnb, P', ?_⟩⟩
      exact (hkill_ne _ (show C ≠ H.nx by omega)).trans ((hkill_ne _ (show C ≠ H.nx + 1 by omega)).trans ck2)
end Go.Proofs.YtgnpoaoekhplhaaGreatDoor.AE.Tst
set_option linter.unusedVariables false
set_option linter.unusedSimpArgs false
namespace Go.Proofs.YtgnpoaoekhplhaaGreatDoor.AE.Tst
open Go Go.Proofs.YtgnpoaoekhplhaaGreatDoor.AE Go.Proofs.YtgnpoaoekhplhaaGreatDoor.AE.Sim

@[go_sem] theorem ixa_eq (len esz : Nat) (n : Option Nat) (cs : List V) (k : IntKind) (j : Nat) : ixaV len esz n (some (.ag cs)) (some (.i k (j : Int))) = bif Nat.blt j len then part1 (j * esz) n cs else none := rfl
@[go_sem] theorem nth_4 (a b c d e : V) (l : List V) : nth (a :: b :: c :: d :: e :: l) 4 = some e := rfl

@[go_sem] theorem putAt_4 (x x1 x2 x3 x4 y : V) (l ys : List V) : putAt (x :: x1 :: x2 :: x3 :: x4 :: l) 4 (y :: ys) = (match putAt (x4 :: l) 0 (y :: ys) with
    | some r => some (x :: x1 :: x2 :: x3 :: r)
    | none => none) := by
  rw [putAt_s x y (x1 :: x2 :: x3 :: x4 :: l) ys 3, putAt_3]
  cases putAt (x4 :: l) 0 (y :: ys) <;> rfl
def rightB (m : Mo) : Bool := sizedB m && ownedB m && namedB m && (gainP 1 (allC m)).isSome && (branchP m.owner.length 1 (allC m)).isSome
theorem check_ok (h : Hp) (ok : h.Ok) (hl0 : laidB h L11 = true) (o c : V) (m : Mo) (hm : MoR h o c m) (sm : SmallMo m) (as : AllSmall m) :
    Yv (E (.call 44 [.ag [o, c]] h)) fun v h' => ∃ C, v = .tu [.p C 0, .b (rightB m)] ∧ Gr h h' ∧ h.nx ≤ C ∧ (rightB m = true → ∃ P G : Nat, branchP m.owner.length 1 (allC m) = some P ∧ gainP 1 (allC m) = some G ∧ CkR h' C o c (P : Int) (G : Int)) := by
  have n0 := hm.1.num.1
  have n1 := hm.2.num.1
  rw [e44]
  have g1 := (Gr.refl ok).add (.c [o, c] 32 none false false 0)
  have hbx := hadd_same h (.c [o, c] 32 none false false 0)
  simp (maxSteps := 10000000) (implicitDefEqProofs := false) (disch := first | omega | (simp only [add_nx, set_nx, kill_nx, bump_nx]; omega)) only [go_sem, get_set, ↓reduceIte, Nat.reduceEqDiff, Nat.reduceAdd, Nat.reduceSub, Nat.reduceMul, Nat.reduceMod, Nat.reduceDiv, Nat.reduceLT, Nat.reduceLeDiff, reduceCtorEq, decide_true, decide_false, Bool.false_eq_true, true_and, and_true, eq_self, Nat.zero_add, Nat.add_zero, Nat.mul_one, Nat.zero_mul, Nat.sub_zero, List.drop_zero, List.nil_append, List.append_nil, List.cons_append, Nat.zero_le, wrap64_nat, wrap64_int, wrap8u_lt, wrap32u_lt, wrap64u_lt, subI_nat, ixs_at, slcS_at, ia_sl, ia_ar, hadd_eq, hadd_ne, hset_eq, hset_ne, hkill_ne, at_add_same, at_add_ne, at_set_same, at_set_ne, at_kill_ne, mks_ok, bin_s_add, b44, n0, n1, hbx]
  have g2 := g1.add (.c [o, c, .i .i64 ((0 : Nat) : Int), .i .i64 ((0 : Nat) : Int)] 86 none false false 0)
  have ck : CkR ((h.add (.c [o, c] 32 none false false 0)).add (.c [o, c, .i .i64 ((0 : Nat) : Int), .i .i64 ((0 : Nat) : Int)] 86 none false false 0)) (h.nx + 1) o c ((0 : Nat) : Int) ((0 : Nat) : Int) := hadd_same (h.add _) _
  generalize (h.add (.c [o, c] 32 none false false 0)).add (.c [o, c, .i .i64 ((0 : Nat) : Int), .i .i64 ((0 : Nat) : Int)] 86 none false false 0) = H at g2 ck ⊢
  clear g1 hbx
  -- the first rule
  rw [E_loop]
  simp (maxSteps := 10000000) (implicitDefEqProofs := false) (disch := first | omega | (simp only [add_nx, set_nx, kill_nx, bump_nx]; omega)) only [go_sem, get_set, ↓reduceIte, Nat.reduceEqDiff, Nat.reduceAdd, Nat.reduceSub, Nat.reduceMul, Nat.reduceMod, Nat.reduceDiv, Nat.reduceLT, Nat.reduceLeDiff, reduceCtorEq, decide_true, decide_false, Bool.false_eq_true, true_and, and_true, eq_self, Nat.zero_add, Nat.add_zero, Nat.mul_one, Nat.zero_mul, Nat.sub_zero, List.drop_zero, List.nil_append, List.append_nil, List.cons_append, Nat.zero_le, wrap64_nat, wrap64_int, wrap8u_lt, wrap32u_lt, wrap64u_lt, subI_nat, ixs_at, slcS_at, ia_sl, ia_ar, hadd_eq, hadd_ne, hset_eq, hset_ne, hkill_ne, at_add_same, at_add_ne, at_set_same, at_set_ne, at_kill_ne, mks_ok, bin_s_add, l44_0]
  refine (sized_ok H g2.ok _ o c _ _ m ck (moR_gr g2 hm)).mono ?_
  rintro v h1 ⟨rfl, gr1⟩
  cases c1 : sizedB m
  · have er : rightB m = false := by unfold rightB; rw [c1]; rfl
    simp (maxSteps := 10000000) (implicitDefEqProofs := false) (disch := first | omega | (simp only [add_nx, set_nx, kill_nx, bump_nx]; omega)) only [go_sem, get_set, ↓reduceIte, Nat.reduceEqDiff, Nat.reduceAdd, Nat.reduceSub, Nat.reduceMul, Nat.reduceMod, Nat.reduceDiv, Nat.reduceLT, Nat.reduceLeDiff, reduceCtorEq, decide_true, decide_false, Bool.false_eq_true, true_and, and_true, eq_self, Nat.zero_add, Nat.add_zero, Nat.mul_one, Nat.zero_mul, Nat.sub_zero, List.drop_zero, List.nil_append, List.append_nil, List.cons_append, Nat.zero_le, wrap64_nat, wrap64_int, wrap8u_lt, wrap32u_lt, wrap64u_lt, subI_nat, ixs_at, slcS_at, ia_sl, ia_ar, hadd_eq, hadd_ne, hset_eq, hset_ne, hkill_ne, at_add_same, at_add_ne, at_set_same, at_set_ne, at_kill_ne, mks_ok, bin_s_add]
    exact ⟨h.nx + 1, by rw [er], g2.trans gr1, by omega, fun e => by rw [er] at e; cases e⟩
  simp (maxSteps := 10000000) (implicitDefEqProofs := false) (disch := first | omega | (simp only [add_nx, set_nx, kill_nx, bump_nx]; omega)) only [go_sem, get_set, ↓reduceIte, Nat.reduceEqDiff, Nat.reduceAdd, Nat.reduceSub, Nat.reduceMul, Nat.reduceMod, Nat.reduceDiv, Nat.reduceLT, Nat.reduceLeDiff, reduceCtorEq, decide_true, decide_false, Bool.false_eq_true, true_and, and_true, eq_self, Nat.zero_add, Nat.add_zero, Nat.mul_one, Nat.zero_mul, Nat.sub_zero, List.drop_zero, List.nil_append, List.append_nil, List.cons_append, Nat.zero_le, wrap64_nat, wrap64_int, wrap8u_lt, wrap32u_lt, wrap64u_lt, subI_nat, ixs_at, slcS_at, ia_sl, ia_ar, hadd_eq, hadd_ne, hset_eq, hset_ne, hkill_ne, at_add_same, at_add_ne, at_set_same, at_set_ne, at_kill_ne, mks_ok, bin_s_add]
  have G1 := g2.trans gr1
  have ck1 : CkR h1 (h.nx + 1) o c ((0 : Nat) : Int) ((0 : Nat) : Int) := gr1.keep _ _ ck
  -- the second
  rw [E_loop]
  simp (maxSteps := 10000000) (implicitDefEqProofs := false) (disch := first | omega | (simp only [add_nx, set_nx, kill_nx, bump_nx]; omega)) only [go_sem, get_set, ↓reduceIte, Nat.reduceEqDiff, Nat.reduceAdd, Nat.reduceSub, Nat.reduceMul, Nat.reduceMod, Nat.reduceDiv, Nat.reduceLT, Nat.reduceLeDiff, reduceCtorEq, decide_true, decide_false, Bool.false_eq_true, true_and, and_true, eq_self, Nat.zero_add, Nat.add_zero, Nat.mul_one, Nat.zero_mul, Nat.sub_zero, List.drop_zero, List.nil_append, List.append_nil, List.cons_append, Nat.zero_le, wrap64_nat, wrap64_int, wrap8u_lt, wrap32u_lt, wrap64u_lt, subI_nat, ixs_at, slcS_at, ia_sl, ia_ar, hadd_eq, hadd_ne, hset_eq, hset_ne, hkill_ne, at_add_same, at_add_ne, at_set_same, at_set_ne, at_kill_ne, mks_ok, bin_s_add, l44_0]
  refine (owned_ok h1 G1.ok _ o c _ _ m ck1 (moR_gr G1 hm) (by have := sm.1; omega)).mono ?_
  rintro v h2 ⟨rfl, gr2⟩
  cases c2 : ownedB m
  · have er : rightB m = false := by unfold rightB; rw [c1, c2]; rfl
    simp (maxSteps := 10000000) (implicitDefEqProofs := false) (disch := first | omega | (simp only [add_nx, set_nx, kill_nx, bump_nx]; omega)) only [go_sem, get_set, ↓reduceIte, Nat.reduceEqDiff, Nat.reduceAdd, Nat.reduceSub, Nat.reduceMul, Nat.reduceMod, Nat.reduceDiv, Nat.reduceLT, Nat.reduceLeDiff, reduceCtorEq, decide_true, decide_false, Bool.false_eq_true, true_and, and_true, eq_self, Nat.zero_add, Nat.add_zero, Nat.mul_one, Nat.zero_mul, Nat.sub_zero, List.drop_zero, List.nil_append, List.append_nil, List.cons_append, Nat.zero_le, wrap64_nat, wrap64_int, wrap8u_lt, wrap32u_lt, wrap64u_lt, subI_nat, ixs_at, slcS_at, ia_sl, ia_ar, hadd_eq, hadd_ne, hset_eq, hset_ne, hkill_ne, at_add_same, at_add_ne, at_set_same, at_set_ne, at_kill_ne, mks_ok, bin_s_add]
    exact ⟨h.nx + 1, by rw [er], G1.trans gr2, by omega, fun e => by rw [er] at e; cases e⟩
  simp (maxSteps := 10000000) (implicitDefEqProofs := false) (disch := first | omega | (simp only [add_nx, set_nx, kill_nx, bump_nx]; omega)) only [go_sem, get_set, ↓reduceIte, Nat.reduceEqDiff, Nat.reduceAdd, Nat.reduceSub, Nat.reduceMul, Nat.reduceMod, Nat.reduceDiv, Nat.reduceLT, Nat.reduceLeDiff, reduceCtorEq, decide_true, decide_false, Bool.false_eq_true, true_and, and_true, eq_self, Nat.zero_add, Nat.add_zero, Nat.mul_one, Nat.zero_mul, Nat.sub_zero, List.drop_zero, List.nil_append, List.append_nil, List.cons_append, Nat.zero_le, wrap64_nat, wrap64_int, wrap8u_lt, wrap32u_lt, wrap64u_lt, subI_nat, ixs_at, slcS_at, ia_sl, ia_ar, hadd_eq, hadd_ne, hset_eq, hset_ne, hkill_ne, at_add_same, at_add_ne, at_set_same, at_set_ne, at_kill_ne, mks_ok, bin_s_add]
  have G2 := G1.trans gr2
  have ck2 : CkR h2 (h.nx + 1) o c ((0 : Nat) : Int) ((0 : Nat) : Int) := gr2.keep _ _ ck1
  -- the third
  rw [E_loop]
  simp (maxSteps := 10000000) (implicitDefEqProofs := false) (disch := first | omega | (simp only [add_nx, set_nx, kill_nx, bump_nx]; omega)) only [go_sem, get_set, ↓reduceIte, Nat.reduceEqDiff, Nat.reduceAdd, Nat.reduceSub, Nat.reduceMul, Nat.reduceMod, Nat.reduceDiv, Nat.reduceLT, Nat.reduceLeDiff, reduceCtorEq, decide_true, decide_false, Bool.false_eq_true, true_and, and_true, eq_self, Nat.zero_add, Nat.add_zero, Nat.mul_one, Nat.zero_mul, Nat.sub_zero, List.drop_zero, List.nil_append, List.append_nil, List.cons_append, Nat.zero_le, wrap64_nat, wrap64_int, wrap8u_lt, wrap32u_lt, wrap64u_lt, subI_nat, ixs_at, slcS_at, ia_sl, ia_ar, hadd_eq, hadd_ne, hset_eq, hset_ne, hkill_ne, at_add_same, at_add_ne, at_set_same, at_set_ne, at_kill_ne, mks_ok, bin_s_add, l44_0]
  refine (named_ok h2 G2.ok _ o c _ _ m ck2 (moR_gr G2 hm) sm).mono ?_
  rintro v h3 ⟨rfl, gr3⟩
  cases c3 : namedB m
  · have er : rightB m = false := by unfold rightB; rw [c1, c2, c3]; rfl
    simp (maxSteps := 10000000) (implicitDefEqProofs := false) (disch := first | omega | (simp only [add_nx, set_nx, kill_nx, bump_nx]; omega)) only [go_sem, get_set, ↓reduceIte, Nat.reduceEqDiff, Nat.reduceAdd, Nat.reduceSub, Nat.reduceMul, Nat.reduceMod, Nat.reduceDiv, Nat.reduceLT, Nat.reduceLeDiff, reduceCtorEq, decide_true, decide_false, Bool.false_eq_true, true_and, and_true, eq_self, Nat.zero_add, Nat.add_zero, Nat.mul_one, Nat.zero_mul, Nat.sub_zero, List.drop_zero, List.nil_append, List.append_nil, List.cons_append, Nat.zero_le, wrap64_nat, wrap64_int, wrap8u_lt, wrap32u_lt, wrap64u_lt, subI_nat, ixs_at, slcS_at, ia_sl, ia_ar, hadd_eq, hadd_ne, hset_eq, hset_ne, hkill_ne, at_add_same, at_add_ne, at_set_same, at_set_ne, at_kill_ne, mks_ok, bin_s_add]
    exact ⟨h.nx + 1, by rw [er], G2.trans gr3, by omega, fun e => by rw [er] at e; cases e⟩
  simp (maxSteps := 10000000) (implicitDefEqProofs := false) (disch := first | omega | (simp only [add_nx, set_nx, kill_nx, bump_nx]; omega)) only [go_sem, get_set, ↓reduceIte, Nat.reduceEqDiff, Nat.reduceAdd, Nat.reduceSub, Nat.reduceMul, Nat.reduceMod, Nat.reduceDiv, Nat.reduceLT, Nat.reduceLeDiff, reduceCtorEq, decide_true, decide_false, Bool.false_eq_true, true_and, and_true, eq_self, Nat.zero_add, Nat.add_zero, Nat.mul_one, Nat.zero_mul, Nat.sub_zero, List.drop_zero, List.nil_append, List.append_nil, List.cons_append, Nat.zero_le, wrap64_nat, wrap64_int, wrap8u_lt, wrap32u_lt, wrap64u_lt, subI_nat, ixs_at, slcS_at, ia_sl, ia_ar, hadd_eq, hadd_ne, hset_eq, hset_ne, hkill_ne, at_add_same, at_add_ne, at_set_same, at_set_ne, at_kill_ne, mks_ok, bin_s_add]
  have G3 := G2.trans gr3
  have ck3 : CkR h3 (h.nx + 1) o c ((0 : Nat) : Int) ((0 : Nat) : Int) := gr3.keep _ _ ck2
  -- the fourth
  rw [E_loop]
  simp (maxSteps := 10000000) (implicitDefEqProofs := false) (disch := first | omega | (simp only [add_nx, set_nx, kill_nx, bump_nx]; omega)) only [go_sem, get_set, ↓reduceIte, Nat.reduceEqDiff, Nat.reduceAdd, Nat.reduceSub, Nat.reduceMul, Nat.reduceMod, Nat.reduceDiv, Nat.reduceLT, Nat.reduceLeDiff, reduceCtorEq, decide_true, decide_false, Bool.false_eq_true, true_and, and_true, eq_self, Nat.zero_add, Nat.add_zero, Nat.mul_one, Nat.zero_mul, Nat.sub_zero, List.drop_zero, List.nil_append, List.append_nil, List.cons_append, Nat.zero_le, wrap64_nat, wrap64_int, wrap8u_lt, wrap32u_lt, wrap64u_lt, subI_nat, ixs_at, slcS_at, ia_sl, ia_ar, hadd_eq, hadd_ne, hset_eq, hset_ne, hkill_ne, at_add_same, at_add_ne, at_set_same, at_set_ne, at_kill_ne, mks_ok, bin_s_add, l44_0]
  refine (gained_ok G3 hl0 _ (by omega) o c _ _ m ck3 hm sm as).mono ?_
  rintro v h4 ⟨gc4, ⟨rfl, Gn, c4, ck4⟩ | ⟨rfl, c4, g', ck4⟩⟩
  case inr =>
    have er : rightB m = false := by unfold rightB; rw [c1, c2, c3, c4]; rfl
    simp (maxSteps := 10000000) (implicitDefEqProofs := false) (disch := first | omega | (simp only [add_nx, set_nx, kill_nx, bump_nx]; omega)) only [go_sem, get_set, ↓reduceIte, Nat.reduceEqDiff, Nat.reduceAdd, Nat.reduceSub, Nat.reduceMul, Nat.reduceMod, Nat.reduceDiv, Nat.reduceLT, Nat.reduceLeDiff, reduceCtorEq, decide_true, decide_false, Bool.false_eq_true, true_and, and_true, eq_self, Nat.zero_add, Nat.add_zero, Nat.mul_one, Nat.zero_mul, Nat.sub_zero, List.drop_zero, List.nil_append, List.append_nil, List.cons_append, Nat.zero_le, wrap64_nat, wrap64_int, wrap8u_lt, wrap32u_lt, wrap64u_lt, subI_nat, ixs_at, slcS_at, ia_sl, ia_ar, hadd_eq, hadd_ne, hset_eq, hset_ne, hkill_ne, at_add_same, at_add_ne, at_set_same, at_set_ne, at_kill_ne, mks_ok, bin_s_add]
    exact ⟨h.nx + 1, by rw [er], gc4.base G3 (by omega), by omega, fun e => by rw [er] at e; cases e⟩
  simp (maxSteps := 10000000) (implicitDefEqProofs := false) (disch := first | omega | (simp only [add_nx, set_nx, kill_nx, bump_nx]; omega)) only [go_sem, get_set, ↓reduceIte, Nat.reduceEqDiff, Nat.reduceAdd, Nat.reduceSub, Nat.reduceMul, Nat.reduceMod, Nat.reduceDiv, Nat.reduceLT, Nat.reduceLeDiff, reduceCtorEq, decide_true, decide_false, Bool.false_eq_true, true_and, and_true, eq_self, Nat.zero_add, Nat.add_zero, Nat.mul_one, Nat.zero_mul, Nat.sub_zero, List.drop_zero, List.nil_append, List.append_nil, List.cons_append, Nat.zero_le, wrap64_nat, wrap64_int, wrap8u_lt, wrap32u_lt, wrap64u_lt, subI_nat, ixs_at, slcS_at, ia_sl, ia_ar, hadd_eq, hadd_ne, hset_eq, hset_ne, hkill_ne, at_add_same, at_add_ne, at_set_same, at_set_ne, at_kill_ne, mks_ok, bin_s_add]
  have G4 := gc4.base G3 (by omega)
  -- the fifth
  rw [E_loop]
  simp (maxSteps := 10000000) (implicitDefEqProofs := false) (disch := first | omega | (simp only [add_nx, set_nx, kill_nx, bump_nx]; omega)) only [go_sem, get_set, ↓reduceIte, Nat.reduceEqDiff, Nat.reduceAdd, Nat.reduceSub, Nat.reduceMul, Nat.reduceMod, Nat.reduceDiv, Nat.reduceLT, Nat.reduceLeDiff, reduceCtorEq, decide_true, decide_false, Bool.false_eq_true, true_and, and_true, eq_self, Nat.zero_add, Nat.add_zero, Nat.mul_one, Nat.zero_mul, Nat.sub_zero, List.drop_zero, List.nil_append, List.append_nil, List.cons_append, Nat.zero_le, wrap64_nat, wrap64_int, wrap8u_lt, wrap32u_lt, wrap64u_lt, subI_nat, ixs_at, slcS_at, ia_sl, ia_ar, hadd_eq, hadd_ne, hset_eq, hset_ne, hkill_ne, at_add_same, at_add_ne, at_set_same, at_set_ne, at_kill_ne, mks_ok, bin_s_add, l44_0]
  refine (branched_ok G4 hl0 _ (by omega) o c _ _ m ck4 hm sm as).mono ?_
  rintro v h5 ⟨gc5, ⟨rfl, Pn, c5, ck5⟩ | ⟨rfl, c5, p', ck5⟩⟩
  case inr =>
    have er : rightB m = false := by unfold rightB; rw [c1, c2, c3, c4, c5]; rfl
    simp (maxSteps := 10000000) (implicitDefEqProofs := false) (disch := first | omega | (simp only [add_nx, set_nx, kill_nx, bump_nx]; omega)) only [go_sem, get_set, ↓reduceIte, Nat.reduceEqDiff, Nat.reduceAdd, Nat.reduceSub, Nat.reduceMul, Nat.reduceMod, Nat.reduceDiv, Nat.reduceLT, Nat.reduceLeDiff, reduceCtorEq, decide_true, decide_false, Bool.false_eq_true, true_and, and_true, eq_self, Nat.zero_add, Nat.add_zero, Nat.mul_one, Nat.zero_mul, Nat.sub_zero, List.drop_zero, List.nil_append, List.append_nil, List.cons_append, Nat.zero_le, wrap64_nat, wrap64_int, wrap8u_lt, wrap32u_lt, wrap64u_lt, subI_nat, ixs_at, slcS_at, ia_sl, ia_ar, hadd_eq, hadd_ne, hset_eq, hset_ne, hkill_ne, at_add_same, at_add_ne, at_set_same, at_set_ne, at_kill_ne, mks_ok, bin_s_add]
    exact ⟨h.nx + 1, by rw [er], gc5.base G4 (by omega), by omega, fun e => by rw [er] at e; cases e⟩
  have er : rightB m = true := by unfold rightB; rw [c1, c2, c3, c4, c5]; rfl
  simp (maxSteps := 10000000) (implicitDefEqProofs := false) (disch := first | omega | (simp only [add_nx, set_nx, kill_nx, bump_nx]; omega)) only [go_sem, get_set, ↓reduceIte, Nat.reduceEqDiff, Nat.reduceAdd, Nat.reduceSub, Nat.reduceMul, Nat.reduceMod, Nat.reduceDiv, Nat.reduceLT, Nat.reduceLeDiff, reduceCtorEq, decide_true, decide_false, Bool.false_eq_true, true_and, and_true, eq_self, Nat.zero_add, Nat.add_zero, Nat.mul_one, Nat.zero_mul, Nat.sub_zero, List.drop_zero, List.nil_append, List.append_nil, List.cons_append, Nat.zero_le, wrap64_nat, wrap64_int, wrap8u_lt, wrap32u_lt, wrap64u_lt, subI_nat, ixs_at, slcS_at, ia_sl, ia_ar, hadd_eq, hadd_ne, hset_eq, hset_ne, hkill_ne, at_add_same, at_add_ne, at_set_same, at_set_ne, at_kill_ne, mks_ok, bin_s_add]
  rw [E_loop]
  simp (maxSteps := 10000000) (implicitDefEqProofs := false) (disch := first | omega | (simp only [add_nx, set_nx, kill_nx, bump_nx]; omega)) only [go_sem, get_set, ↓reduceIte, Nat.reduceEqDiff, Nat.reduceAdd, Nat.reduceSub, Nat.reduceMul, Nat.reduceMod, Nat.reduceDiv, Nat.reduceLT, Nat.reduceLeDiff, reduceCtorEq, decide_true, decide_false, Bool.false_eq_true, true_and, and_true, eq_self, Nat.zero_add, Nat.add_zero, Nat.mul_one, Nat.zero_mul, Nat.sub_zero, List.drop_zero, List.nil_append, List.append_nil, List.cons_append, Nat.zero_le, wrap64_nat, wrap64_int, wrap8u_lt, wrap32u_lt, wrap64u_lt, subI_nat, ixs_at, slcS_at, ia_sl, ia_ar, hadd_eq, hadd_ne, hset_eq, hset_ne, hkill_ne, at_add_same, at_add_ne, at_set_same, at_set_ne, at_kill_ne, mks_ok, bin_s_add, l44_0]
  exact ⟨h.nx + 1, by rw [er], gc5.base G4 (by omega), by omega, fun _ => ⟨Pn, Gn, c5, c4, ck5⟩⟩
end Go.Proofs.YtgnpoaoekhplhaaGreatDoor.AE.Tst
set_option linter.unusedVariables false
set_option linter.unusedSimpArgs false
namespace Go.Proofs.YtgnpoaoekhplhaaGreatDoor.AE.Tst
open Go Go.Proofs.YtgnpoaoekhplhaaGreatDoor.AE Go.Proofs.YtgnpoaoekhplhaaGreatDoor.AE.Sim

section
variable (h : Hp) (ok : h.Ok) (hl0 : laidB h L11 = true) (o c : V) (m : Mo) (hm : MoR h o c m) (sm : SmallMo m) (as : AllSmall m)
include ok hl0 hm sm as
theorem Check_ok : Yv (E (.call 15 [.ag [o, c]] h)) fun v h' => v = .i .i64 (((if rightB m then 0 else 110 : Nat) : Nat) : Int) ∧ Gr h h' := by
  have n0 := hm.1.num.1
  have n1 := hm.2.num.1
  rw [e15]
  have g1 := (Gr.refl ok).add (.c [o, c] 32 none false false 0)
  have hbx := hadd_same h (.c [o, c] 32 none false false 0)
  have b0 : (h.add (.c [o, c] 32 none false false 0)).at h.nx 0 = some o := by rw [at_of hbx]; rfl
  have b1 : (h.add (.c [o, c] 32 none false false 0)).at h.nx 1 = some c := by rw [at_of hbx]; rfl
  simp (maxSteps := 10000000) (implicitDefEqProofs := false) (disch := first | omega | (simp only [add_nx, set_nx, kill_nx, bump_nx]; omega)) only [go_sem, get_set, ↓reduceIte, Nat.reduceEqDiff, Nat.reduceAdd, Nat.reduceSub, Nat.reduceMul, Nat.reduceMod, Nat.reduceDiv, Nat.reduceLT, Nat.reduceLeDiff, reduceCtorEq, decide_true, decide_false, Bool.false_eq_true, true_and, and_true, eq_self, Nat.zero_add, Nat.add_zero, Nat.mul_one, Nat.zero_mul, Nat.sub_zero, List.drop_zero, List.nil_append, List.append_nil, List.cons_append, Nat.zero_le, wrap64_nat, wrap64_int, wrap8u_lt, wrap32u_lt, wrap64u_lt, subI_nat, ixs_at, slcS_at, ia_sl, ia_ar, hadd_eq, hadd_ne, hset_eq, hset_ne, hkill_ne, at_add_same, at_add_ne, at_set_same, at_set_ne, at_kill_ne, mks_ok, bin_s_add, b15, n0, n1, b0, b1]
  refine (check_ok _ g1.ok (g1.laid hl0) o c m (moR_gr g1 hm) sm as).mono ?_
  rintro v h2 ⟨C, rfl, g2, hC, hr⟩
  cases er : rightB m
  · simp (maxSteps := 10000000) (implicitDefEqProofs := false) (disch := first | omega | (simp only [add_nx, set_nx, kill_nx, bump_nx]; omega)) only [go_sem, get_set, ↓reduceIte, Nat.reduceEqDiff, Nat.reduceAdd, Nat.reduceSub, Nat.reduceMul, Nat.reduceMod, Nat.reduceDiv, Nat.reduceLT, Nat.reduceLeDiff, reduceCtorEq, decide_true, decide_false, Bool.false_eq_true, true_and, and_true, eq_self, Nat.zero_add, Nat.add_zero, Nat.mul_one, Nat.zero_mul, Nat.sub_zero, List.drop_zero, List.nil_append, List.append_nil, List.cons_append, Nat.zero_le, wrap64_nat, wrap64_int, wrap8u_lt, wrap32u_lt, wrap64u_lt, subI_nat, ixs_at, slcS_at, ia_sl, ia_ar, hadd_eq, hadd_ne, hset_eq, hset_ne, hkill_ne, at_add_same, at_add_ne, at_set_same, at_set_ne, at_kill_ne, mks_ok, bin_s_add]
    exact g1.trans g2
  · simp (maxSteps := 10000000) (implicitDefEqProofs := false) (disch := first | omega | (simp only [add_nx, set_nx, kill_nx, bump_nx]; omega)) only [go_sem, get_set, ↓reduceIte, Nat.reduceEqDiff, Nat.reduceAdd, Nat.reduceSub, Nat.reduceMul, Nat.reduceMod, Nat.reduceDiv, Nat.reduceLT, Nat.reduceLeDiff, reduceCtorEq, decide_true, decide_false, Bool.false_eq_true, true_and, and_true, eq_self, Nat.zero_add, Nat.add_zero, Nat.mul_one, Nat.zero_mul, Nat.sub_zero, List.drop_zero, List.nil_append, List.append_nil, List.cons_append, Nat.zero_le, wrap64_nat, wrap64_int, wrap8u_lt, wrap32u_lt, wrap64u_lt, subI_nat, ixs_at, slcS_at, ia_sl, ia_ar, hadd_eq, hadd_ne, hset_eq, hset_ne, hkill_ne, at_add_same, at_add_ne, at_set_same, at_set_ne, at_kill_ne, mks_ok, bin_s_add]
    exact g1.trans g2
theorem Grain_no (er : rightB m = false) : Yv (E (.call 16 [.ag [o, c]] h)) fun v h' => v = .tu [.i .i64 ((0 : Nat) : Int), .i .i64 ((0 : Nat) : Int), .i .i64 ((110 : Nat) : Int)] ∧ Gr h h' := by
  have n0 := hm.1.num.1
  have n1 := hm.2.num.1
  rw [e16]
  have g1 := (Gr.refl ok).add (.c [o, c] 32 none false false 0)
  have hbx := hadd_same h (.c [o, c] 32 none false false 0)
  have b0 : (h.add (.c [o, c] 32 none false false 0)).at h.nx 0 = some o := by rw [at_of hbx]; rfl
  have b1 : (h.add (.c [o, c] 32 none false false 0)).at h.nx 1 = some c := by rw [at_of hbx]; rfl
  simp (maxSteps := 10000000) (implicitDefEqProofs := false) (disch := first | omega | (simp only [add_nx, set_nx, kill_nx, bump_nx]; omega)) only [go_sem, get_set, ↓reduceIte, Nat.reduceEqDiff, Nat.reduceAdd, Nat.reduceSub, Nat.reduceMul, Nat.reduceMod, Nat.reduceDiv, Nat.reduceLT, Nat.reduceLeDiff, reduceCtorEq, decide_true, decide_false, Bool.false_eq_true, true_and, and_true, eq_self, Nat.zero_add, Nat.add_zero, Nat.mul_one, Nat.zero_mul, Nat.sub_zero, List.drop_zero, List.nil_append, List.append_nil, List.cons_append, Nat.zero_le, wrap64_nat, wrap64_int, wrap8u_lt, wrap32u_lt, wrap64u_lt, subI_nat, ixs_at, slcS_at, ia_sl, ia_ar, hadd_eq, hadd_ne, hset_eq, hset_ne, hkill_ne, at_add_same, at_add_ne, at_set_same, at_set_ne, at_kill_ne, mks_ok, bin_s_add, b16, n0, n1, b0, b1]
  refine (check_ok _ g1.ok (g1.laid hl0) o c m (moR_gr g1 hm) sm as).mono ?_
  rintro v h2 ⟨C, rfl, g2, hC, hr⟩
  rw [er]
  simp (maxSteps := 10000000) (implicitDefEqProofs := false) (disch := first | omega | (simp only [add_nx, set_nx, kill_nx, bump_nx]; omega)) only [go_sem, get_set, ↓reduceIte, Nat.reduceEqDiff, Nat.reduceAdd, Nat.reduceSub, Nat.reduceMul, Nat.reduceMod, Nat.reduceDiv, Nat.reduceLT, Nat.reduceLeDiff, reduceCtorEq, decide_true, decide_false, Bool.false_eq_true, true_and, and_true, eq_self, Nat.zero_add, Nat.add_zero, Nat.mul_one, Nat.zero_mul, Nat.sub_zero, List.drop_zero, List.nil_append, List.append_nil, List.cons_append, Nat.zero_le, wrap64_nat, wrap64_int, wrap8u_lt, wrap32u_lt, wrap64u_lt, subI_nat, ixs_at, slcS_at, ia_sl, ia_ar, hadd_eq, hadd_ne, hset_eq, hset_ne, hkill_ne, at_add_same, at_add_ne, at_set_same, at_set_ne, at_kill_ne, mks_ok, bin_s_add]
  exact g1.trans g2
theorem Grain_ok (er : rightB m = true) : Yv (E (.call 16 [.ag [o, c]] h)) fun v h' => ∃ P G : Nat, branchP m.owner.length 1 (allC m) = some P ∧ gainP 1 (allC m) = some G ∧ v = .tu [.i .i64 ((P : Nat) : Int), .i .i64 ((G : Nat) : Int), .i .i64 ((0 : Nat) : Int)] ∧ Gr h h' := by
  have n0 := hm.1.num.1
  have n1 := hm.2.num.1
  rw [e16]
  have g1 := (Gr.refl ok).add (.c [o, c] 32 none false false 0)
  have hbx := hadd_same h (.c [o, c] 32 none false false 0)
  have b0 : (h.add (.c [o, c] 32 none false false 0)).at h.nx 0 = some o := by rw [at_of hbx]; rfl
  have b1 : (h.add (.c [o, c] 32 none false false 0)).at h.nx 1 = some c := by rw [at_of hbx]; rfl
  simp (maxSteps := 10000000) (implicitDefEqProofs := false) (disch := first | omega | (simp only [add_nx, set_nx, kill_nx, bump_nx]; omega)) only [go_sem, get_set, ↓reduceIte, Nat.reduceEqDiff, Nat.reduceAdd, Nat.reduceSub, Nat.reduceMul, Nat.reduceMod, Nat.reduceDiv, Nat.reduceLT, Nat.reduceLeDiff, reduceCtorEq, decide_true, decide_false, Bool.false_eq_true, true_and, and_true, eq_self, Nat.zero_add, Nat.add_zero, Nat.mul_one, Nat.zero_mul, Nat.sub_zero, List.drop_zero, List.nil_append, List.append_nil, List.cons_append, Nat.zero_le, wrap64_nat, wrap64_int, wrap8u_lt, wrap32u_lt, wrap64u_lt, subI_nat, ixs_at, slcS_at, ia_sl, ia_ar, hadd_eq, hadd_ne, hset_eq, hset_ne, hkill_ne, at_add_same, at_add_ne, at_set_same, at_set_ne, at_kill_ne, mks_ok, bin_s_add, b16, n0, n1, b0, b1]
  refine (check_ok _ g1.ok (g1.laid hl0) o c m (moR_gr g1 hm) sm as).mono ?_
  rintro v h2 ⟨C, rfl, g2, hC, hr⟩
  obtain ⟨P, G, q1, q2, ck⟩ := hr er
  obtain ⟨_, _, a2, a3⟩ := ckR_at ck
  rw [er]
  simp (maxSteps := 10000000) (implicitDefEqProofs := false) (disch := first | omega | (simp only [add_nx, set_nx, kill_nx, bump_nx]; omega)) only [go_sem, get_set, ↓reduceIte, Nat.reduceEqDiff, Nat.reduceAdd, Nat.reduceSub, Nat.reduceMul, Nat.reduceMod, Nat.reduceDiv, Nat.reduceLT, Nat.reduceLeDiff, reduceCtorEq, decide_true, decide_false, Bool.false_eq_true, true_and, and_true, eq_self, Nat.zero_add, Nat.add_zero, Nat.mul_one, Nat.zero_mul, Nat.sub_zero, List.drop_zero, List.nil_append, List.append_nil, List.cons_append, Nat.zero_le, wrap64_nat, wrap64_int, wrap8u_lt, wrap32u_lt, wrap64u_lt, subI_nat, ixs_at, slcS_at, ia_sl, ia_ar, hadd_eq, hadd_ne, hset_eq, hset_ne, hkill_ne, at_add_same, at_add_ne, at_set_same, at_set_ne, at_kill_ne, mks_ok, bin_s_add, a2, a3]
  exact ⟨P, G, q1, q2, rfl, g1.trans g2⟩
end
end Go.Proofs.YtgnpoaoekhplhaaGreatDoor.AE.Tst
set_option linter.unusedVariables false
set_option linter.unusedSimpArgs false
namespace Go.Proofs.YtgnpoaoekhplhaaGreatDoor.AE.Tst
open Go Go.Proofs.YtgnpoaoekhplhaaGreatDoor.AE Go.Proofs.YtgnpoaoekhplhaaGreatDoor.AE.Sim

/-! ### A model that lies in a heap, read -/
noncomputable def capB (esz off n : Nat) (cs : List V) (op : Option Nat) : Option Nat → Bool
  | some c => Nat.ble n c
  | none => match op with
    | some e => Nat.beq e esz && Nat.ble n ((cs.length - off) / esz)
    | none => false
noncomputable def slRd (h : Hp) (esz : Nat) : V → Option (List V)
  | .sn => some []
  | .sl id off n cap => match h.get id with
    | some (.c cs _ op _ _ _) => bif Nat.beq ((cs.drop off).take (n * esz)).length (n * esz) && capB esz off n cs op cap then some ((cs.drop off).take (n * esz)) else none
    | _ => none
  | _ => none
theorem slRd_ok {h : Hp} {esz : Nat} {v : V} {cs : List V} (e : slRd h esz v = some cs) : ∃ n, IsSl h esz v n cs := by
  unfold slRd at e
  split at e
  · cases e; exact ⟨0, by simp, .inl ⟨rfl, rfl⟩⟩
  · next id off n cap =>
    split at e
    · next xs ty op ro sb fz eg =>
      cases hb : Nat.beq ((xs.drop off).take (n * esz)).length (n * esz) && capB esz off n xs op cap with
      | false => rw [hb] at e; cases e
      | true =>
        rw [hb] at e
        simp only [cond_true, Option.some.injEq] at e
        subst e
        simp only [Bool.and_eq_true] at hb
        obtain ⟨h1, h2⟩ := hb
        have h1 := Nat.eq_of_beq_eq_true h1
        refine ⟨n, h1, .inr ⟨id, off, cap, rfl, fun i hi => ?_, ?_⟩⟩
        · rw [at_of eg]
          have hi2 : i < n * esz := by rw [h1] at hi; exact hi
          have hl : off + i < xs.length := by
            have : ((xs.drop off).take (n * esz)).length ≤ (xs.drop off).length := by simp; omega
            simp at this hi; omega
          rw [List.getElem?_eq_getElem hl]
          simp
        · cases cap with
          | some c => exact Nat.le_of_ble_eq_true h2
          | none =>
            simp only [capB] at h2
            split at h2
            · next e' =>
              simp only [Bool.and_eq_true] at h2
              obtain ⟨h3, h4⟩ := h2
              have := Nat.eq_of_beq_eq_true h3
              subst this
              exact ⟨xs, ty, ro, sb, fz, eg, Nat.le_of_ble_eq_true h4⟩
            · cases h2
    · cases e
  · cases e

def rdInts : List V → Option (List Int)
  | [] => some []
  | .i .i64 x :: l => match rdInts l with
    | some r => some (x :: r)
    | none => none
  | _ :: _ => none
theorem rdInts_ok : ∀ {cs : List V} {l : List Int}, rdInts cs = some l → cs = intsV l
  | [], l, e => by cases e; rfl
  | x :: cs, l, e => by
    unfold rdInts at e
    split at e
    · next h => cases h
    · next y l' h =>
      cases h
      split at e
      · next r hr => cases e; rw [rdInts_ok hr]; rfl
      · cases e
    · cases e
def rdBrs : List V → Option (List Br)
  | [] => some []
  | .i .i64 x :: .s p :: l => match rdBrs l with
    | some r => some (⟨x, p⟩ :: r)
    | none => none
  | _ => none
theorem rdBrs_ok {h : Hp} : ∀ {cs : List V} {l : List Br}, rdBrs cs = some l → cs.length = l.length * 2 ∧ ∀ i (hi : i < l.length), BrR h ((cs.drop (i * 2)).take 2) l[i]
  | cs, l, e => by
    unfold rdBrs at e
    split at e
    · cases e; exact ⟨rfl, fun i hi => by simp at hi⟩
    · next x p cs' =>
      split at e
      · next r hr =>
        cases e
        obtain ⟨h1, h2⟩ := rdBrs_ok (h := h) hr
        refine ⟨by simp [h1]; omega, fun i hi => ?_⟩
        cases i with
        | zero => rfl
        | succ i =>
          have : (i + 1) * 2 = i * 2 + 2 := by omega
          rw [this]
          exact h2 i (by simpa using hi)
      · cases e
    · cases e
noncomputable def rdChs (h : Hp) : List V → Option (List Ch)
  | [] => some []
  | .s a :: .s g :: nv :: l => match slRd h 2 nv with
    | some xs => match rdBrs xs with
      | some n => match rdChs h l with
        | some r => some (⟨a, g, n⟩ :: r)
        | none => none
      | none => none
    | none => none
  | _ => none
theorem slR_of {α : Type} {R : Hp → List V → α → Prop} {h : Hp} {esz : Nat} {v : V} {cs : List V} {l : List α} (hp : 0 < esz) (e : slRd h esz v = some cs) (h1 : cs.length = l.length * esz) (h2 : ∀ i (hi : i < l.length), R h ((cs.drop (i * esz)).take esz) l[i]) : SlR R esz h v l := by
  obtain ⟨n, hs⟩ := slRd_ok e
  have : n = l.length := Nat.eq_of_mul_eq_mul_right hp (hs.1.symm.trans h1)
  subst this
  exact ⟨cs, hs, h2⟩
theorem rdChs_ok {h : Hp} : ∀ {cs : List V} {l : List Ch}, rdChs h cs = some l → cs.length = l.length * 3 ∧ ∀ i (hi : i < l.length), ChR h ((cs.drop (i * 3)).take 3) l[i]
  | cs, l, e => by
    unfold rdChs at e
    split at e
    · cases e; exact ⟨rfl, fun i hi => by simp at hi⟩
    · next a g nv cs' =>
      split at e
      · next xs hx =>
        split at e
        · next n hn =>
          split at e
          · next r hr =>
            cases e
            obtain ⟨h1, h2⟩ := rdChs_ok (h := h) hr
            refine ⟨by simp [h1]; omega, fun i hi => ?_⟩
            cases i with
            | zero =>
              obtain ⟨b1, b2⟩ := rdBrs_ok (h := h) hn
              exact ⟨nv, rfl, slR_of (by omega) hx b1 b2⟩
            | succ i =>
              have : (i + 1) * 3 = i * 3 + 3 := by omega
              rw [this]
              exact h2 i (by simpa using hi)
          · cases e
        · cases e
      · cases e
    · cases e
noncomputable def rdOut (h : Hp) : List V → Option (List (List Ch))
  | [] => some []
  | v :: l => match slRd h 3 v with
    | some xs => match rdChs h xs with
      | some n => match rdOut h l with
        | some r => some (n :: r)
        | none => none
      | none => none
    | none => none
theorem rdOut_ok {h : Hp} : ∀ {cs : List V} {l : List (List Ch)}, rdOut h cs = some l → cs.length = l.length * 1 ∧ ∀ i (hi : i < l.length), ChsC h ((cs.drop (i * 1)).take 1) l[i]
  | [], l, e => by cases e; exact ⟨rfl, fun i hi => by simp at hi⟩
  | v :: cs, l, e => by
    unfold rdOut at e
    split at e
    · next xs hx =>
      split at e
      · next n hn =>
        split at e
        · next r hr =>
          cases e
          obtain ⟨h1, h2⟩ := rdOut_ok (h := h) hr
          refine ⟨by simp [h1], fun i hi => ?_⟩
          cases i with
          | zero =>
            obtain ⟨b1, b2⟩ := rdChs_ok (h := h) hn
            exact ⟨v, rfl, slR_of (by omega) hx b1 b2⟩
          | succ i =>
            have : (i + 1) * 1 = i * 1 + 1 := by omega
            rw [this]
            exact h2 i (by simpa using hi)
        · cases e
      · cases e
    · cases e
noncomputable def rdMo (h : Hp) (o c : V) : Option Mo := match slRd h 1 o with
  | some xs => match rdInts xs with
    | some ow => match slRd h 1 c with
      | some ys => match rdOut h ys with
        | some ch => some ⟨ow, ch⟩
        | none => none
      | none => none
    | none => none
  | none => none
theorem rdMo_ok {h : Hp} {o c : V} {m : Mo} (e : rdMo h o c = some m) : MoR h o c m := by
  unfold rdMo at e
  split at e
  · next xs hx =>
    split at e
    · next ow how =>
      split at e
      · next ys hy =>
        split at e
        · next ch hch =>
          cases e
          obtain ⟨n, hs⟩ := slRd_ok hx
          have := rdInts_ok how
          subst this
          have hn : n = ow.length := by have := hs.1; rw [intsV_len] at this; omega
          subst hn
          obtain ⟨b1, b2⟩ := rdOut_ok (h := h) hch
          exact ⟨hs, slR_of (by omega) hy b1 b2⟩
        · cases e
      · cases e
    · cases e
  · cases e

/-! ### Which models are known -/
noncomputable def smallV (q : List UInt8) : V := .tu [.i .i64 (smallP q).1, .i .i64 (.ofNat (smallP q).2.1), .b (smallP q).2.2]
noncomputable def kn (q : List UInt8) : Bool := Nat.ble q.length 1048576 && match look 95 [.s q] A11 with
  | some v => V.beq v (smallV q)
  | none => false
theorem kn_small {q : List UInt8} (e : kn q = true) : q.length ≤ 1048576 ∧ SmallAt q := by
  unfold kn at e
  simp only [Bool.and_eq_true] at e
  obtain ⟨e1, e⟩ := e
  refine ⟨Nat.le_of_ble_eq_true e1, fun h ok hl => ?_⟩
  split at e
  · next v hv =>
    have := V.beq_eq _ _ e
    subst this
    refine Yv.of_eq (E_tab (h' := h) (v := smallV q) ?_) ⟨rfl, Gr.refl ok⟩
    show (match look 95 [.s q] A11 with
      | some v => bif laidB h L11 then some (v, h) else none
      | none => none) = _
    rw [hv, hl]; rfl
  · cases e
noncomputable def okCh (ch : Ch) : Bool := Nat.ble ch.act.length 1048576 && kn ch.gain && Nat.ble ch.next.length 1048576 && ch.next.all fun b => kn b.p
noncomputable def okMo (m : Mo) : Bool := Nat.ble m.owner.length 1048576 && Nat.ble m.choices.length 1048576 && m.choices.all fun x => Nat.ble x.length 1048576 && x.all okCh
theorem allFrom_mem : ∀ {ll : List (List Ch)} {s : Nat} {x : Nat × Ch}, x ∈ allFrom s ll → ∃ l ∈ ll, x.2 ∈ l
  | [], s, x, h => by simp [allFrom] at h
  | l :: ll, s, x, h => by
    simp only [allFrom, List.mem_append, List.mem_map] at h
    rcases h with ⟨c, hc, rfl⟩ | h
    · exact ⟨l, by simp, hc⟩
    · obtain ⟨l', a, b⟩ := allFrom_mem h
      exact ⟨l', List.mem_cons_of_mem _ a, b⟩
theorem okMo_ok {m : Mo} (e : okMo m = true) : SmallMo m ∧ AllSmall m := by
  unfold okMo at e
  simp only [Bool.and_eq_true, List.all_eq_true] at e
  obtain ⟨⟨e1, e2⟩, e3⟩ := e
  have key : ∀ x ∈ m.choices, ∀ ch ∈ x, ch.act.length ≤ 1048576 ∧ kn ch.gain = true ∧ ch.next.length ≤ 1048576 ∧ ∀ b ∈ ch.next, kn b.p = true := by
    intro x hx ch hch
    have h := (e3 x hx).2 ch hch
    unfold okCh at h
    simp only [Bool.and_eq_true, List.all_eq_true] at h
    obtain ⟨⟨⟨h1, h2⟩, h3⟩, h4⟩ := h
    exact ⟨Nat.le_of_ble_eq_true h1, h2, Nat.le_of_ble_eq_true h3, h4⟩
  refine ⟨⟨Nat.le_of_ble_eq_true e1, Nat.le_of_ble_eq_true e2, fun x hx => ⟨Nat.le_of_ble_eq_true (e3 x hx).1, fun ch hch => ?_⟩⟩, fun y hy => ?_⟩
  · obtain ⟨k1, k2, k3, k4⟩ := key x hx ch hch
    exact ⟨k1, (kn_small k2).1, k3, fun b hb => (kn_small (k4 b hb)).1⟩
  · obtain ⟨l, hl, hm⟩ := allFrom_mem hy
    obtain ⟨k1, k2, k3, k4⟩ := key l hl y.2 hm
    exact ⟨(kn_small k2).2, fun b hb => (kn_small (k4 b hb)).2⟩

/-! ### The table -/
noncomputable def checkV (m : Mo) : V := .i .i64 (.ofNat (bif rightB m then 0 else 110))
noncomputable def grainV (m : Mo) : V := bif rightB m then (match branchP m.owner.length 1 (allC m), gainP 1 (allC m) with
    | some P, some G => .tu [.i .i64 (.ofNat P), .i .i64 (.ofNat G), .i .i64 (.ofNat 0)]
    | _, _ => .pn)
  else .tu [.i .i64 (.ofNat 0), .i .i64 (.ofNat 0), .i .i64 (.ofNat 110)]
noncomputable def tbM : Tab := fun f args h =>
  bif Nat.beq f 15 || Nat.beq f 16 then (match args with
    | [.ag [o, c]] => match rdMo h o c with
      | some m => bif okMo m && laidB h L11 then some (bif Nat.beq f 15 then checkV m else grainV m, h) else none
      | none => none
    | _ => none)
  else tbw f args h
theorem tbM_spec {f : Nat} {args : List V} {h h' : Hp} {v : V} (e : tbM f args h = some (v, h')) :
    tbw f args h = some (v, h') ∨ (h' = h ∧ v.cl = true ∧ (¬ ∃ k, V.fy k ∈ args) ∧ (h.Ok → Yv (E (.call f args h)) fun v' h'' => v' = v ∧ Gr h h'')) := by
  unfold tbM at e
  cases hf : Nat.beq f 15 || Nat.beq f 16 with
  | false => rw [hf] at e; exact .inl e
  | true =>
    rw [hf] at e
    simp only [cond_true] at e
    split at e
    · next o c =>
      split at e
      · next m hm =>
        cases hb : okMo m && laidB h L11 with
        | false => rw [hb] at e; cases e
        | true =>
          rw [hb] at e
          simp only [cond_true, Option.some.injEq, Prod.mk.injEq] at e
          obtain ⟨e1, rfl⟩ := e
          simp only [Bool.and_eq_true] at hb
          obtain ⟨hb1, hl⟩ := hb
          obtain ⟨sm, as⟩ := okMo_ok hb1
          have hm := rdMo_ok hm
          refine .inr ⟨rfl, ?_, by rintro ⟨k, hk⟩; simp at hk, fun ok => ?_⟩
          · rw [← e1]
            cases Nat.beq f 15
            · simp only [cond_false, grainV]
              cases rightB m
              · rfl
              · simp only [cond_true]; split <;> rfl
            · rfl
          · cases h15 : Nat.beq f 15 with
            | true =>
              rw [h15] at e1
              have := Nat.eq_of_beq_eq_true h15
              subst this
              refine (Check_ok h ok hl o c m hm sm as).mono ?_
              rintro v' h'' ⟨rfl, g⟩
              refine ⟨?_, g⟩
              rw [← e1]; unfold checkV
              cases rightB m <;> rfl
            | false =>
              rw [h15] at e1 hf
              have := Nat.eq_of_beq_eq_true (show Nat.beq f 16 = true by simpa using hf)
              subst this
              cases er : rightB m with
              | false =>
                refine (Grain_no h ok hl o c m hm sm as er).mono ?_
                rintro v' h'' ⟨rfl, g⟩
                refine ⟨?_, g⟩
                rw [← e1]; unfold grainV; rw [er]; rfl
              | true =>
                refine (Grain_ok h ok hl o c m hm sm as er).mono ?_
                rintro v' h'' ⟨P, G, q1, q2, rfl, g⟩
                refine ⟨?_, g⟩
                rw [← e1]; unfold grainV; rw [er, q1, q2]; rfl
      · cases e
    · cases e
end Go.Proofs.YtgnpoaoekhplhaaGreatDoor.AE.Tst
