/- A part of the proof that croupierlaw11.ModelKnown returns true (its last text says so). No condition of its own. -/
import Derived.Test.YtgnpoaoekhplhaaGreatDoorEa
import Derived.Laws.Tables
import Derived.Lib.Builder
import Derived.Lib.UnsafeStr
import Derived.Laws.BytesString
import Derived.Laws.Slices
set_option linter.unusedVariables false
set_option linter.unusedSimpArgs false
set_option linter.unusedSectionVars false
namespace Go.Proofs.YtgnpoaoekhplhaaGreatDoor.AE
open Go
variable {P : Program} {w : World} {σ : Sg} {tm : Tm} {a : Act} {h : Hp}

theorem cScalar_conc {v : Value} {c : V} (h : cScalar v = some c) : conc σ c = some v := by
  unfold cScalar at h
  split at h <;> first | (cases h; done) | (cases h; rfl)

theorem mapO_cScalar : ∀ {l : List Value} {cs : List V}, mapO cScalar l = some cs → concs σ cs = some l
  | [], cs, h => by simp only [mapO] at h; cases h; rfl
  | v :: l, cs, h => by
    simp only [mapO] at h
    split at h
    · next y hy =>
      split at h
      · next ys hys => cases h; exact concs_mk (cScalar_conc hy) (mapO_cScalar hys)
      · cases h
    · cases h

theorem cVal_conc {v : Value} {c : V} (h : cVal v = some c) : conc σ c = some v := by
  unfold cVal at h
  split at h
  · split at h
    · next l hl => cases h; simp only [conc, mapO_cScalar (σ := σ) hl]
    · cases h
  · split at h
    · next l hl => cases h; simp only [conc, mapO_cScalar (σ := σ) hl]
    · cases h
  · exact cScalar_conc h

/-- What an operation finds. -/
structure Cx (P : Program) (σ : Sg) (tm : Tm) (h : Hp) (w : World) (a : Act) : Prop where
  wr : WR P σ h w
  tr : TRel σ tm a.tmps

theorem opnd (c : Cx P σ tm h w a) {x : Operand} {y : AO} {v : V} (hc : cOpnd P x = some y) (hv : y.ev tm = some v) : conc σ v = some (a.eval x) := by
  unfold cOpnd at hc
  split at hc
  · cases hc
    obtain ⟨z, h1, h2⟩ := c.tr _ _ hv
    rw [h1]; simp [Act.eval, Array.getD_eq_getD_getElem?, h2]
  · split at hc
    · next v' hv' =>
      cases hc; cases hv
      exact cVal_conc hv'
    · cases hc
  · split at hc
    · next hg =>
      cases hc; cases hv
      simp only [conc, c.wr.glob _ hg]
      rfl
    · cases hc
  · cases hc; cases hv; rfl

theorem evs_nil (tm : Tm) : evs [] tm = some [] := rfl
theorem evs_cons (tm : Tm) (x : AO) (l : List AO) : evs (x :: l) tm = consO (x.ev tm) (evs l tm) := rfl
theorem consO_some {α : Type} {x : Option α} {l : Option (List α)} {r : List α} (h : consO x l = some r) : ∃ v vs, x = some v ∧ l = some vs ∧ r = v :: vs := by
  unfold consO at h
  split at h
  · cases h; exact ⟨_, _, rfl, rfl, rfl⟩
  · cases h

theorem opnds_list (c : Cx P σ tm h w a) : ∀ {l : List Operand} {ys : List AO} {vs : List V}, mapO (cOpnd P) l = some ys → evs ys tm = some vs → concs σ vs = some (l.map a.eval)
  | [], ys, vs, hc, hv => by simp only [mapO] at hc; cases hc; cases hv; rfl
  | x :: l, ys, vs, hc, hv => by
    simp only [mapO] at hc
    split at hc
    · next y hy =>
      split at hc
      · next ys' hys =>
        cases hc
        rw [evs_cons] at hv
        obtain ⟨v, vs', h1, h2, rfl⟩ := consO_some hv
        exact concs_mk (opnd c hy h1) (opnds_list c hys h2)
      · cases hc
    · cases hc

theorem opnds (c : Cx P σ tm h w a) {l : Array Operand} {ys : List AO} {vs : List V} (hc : cOpnds P l = some ys) (hv : evs ys tm = some vs) :
    concs σ vs = some (l.map a.eval).toList := by
  rw [Array.toList_map]; exact opnds_list c hc hv

/-! ### Parts of structs, arrays and literals -/
theorem foldl_set (off : Nat) : ∀ (l : List Value) (k : Nat) (C : Array Value), off + k + l.length ≤ C.size →
    ((l.zipIdx k).foldl (fun cs (p : Value × Nat) => cs.setIfInBounds (off + p.2) p.1) C).size = C.size ∧
    ∀ i : Nat, ((l.zipIdx k).foldl (fun cs (p : Value × Nat) => cs.setIfInBounds (off + p.2) p.1) C)[i]? = if off + k ≤ i ∧ i < off + k + l.length then l[i - (off + k)]? else C[i]?
  | [], k, C, h => by
    refine ⟨rfl, fun i => ?_⟩
    rw [if_neg (by simp)]; rfl
  | x :: l, k, C, h => by
    have hl : (x :: l).length = l.length + 1 := rfl
    obtain ⟨h1, h2⟩ := foldl_set off l (k + 1) (C.setIfInBounds (off + k) x) (by rw [Array.size_setIfInBounds]; omega)
    rw [List.zipIdx_cons, List.foldl_cons]
    refine ⟨by rw [h1]; simp, fun i => ?_⟩
    rw [h2]
    by_cases hi : i = off + k
    · subst hi
      rw [if_neg (by omega), if_pos (by omega), Nat.sub_self, Array.getElem?_setIfInBounds_self]
      rw [if_pos (by omega)]; rfl
    · rw [Array.getElem?_setIfInBounds_ne (fun e => hi e.symm)]
      by_cases hr : off + (k + 1) ≤ i ∧ i < off + (k + 1) + l.length
      · rw [if_pos hr, if_pos (by omega)]
        have : i - (off + k) = (i - (off + (k + 1))) + 1 := by omega
        rw [this]; simp
      · rw [if_neg hr, if_neg (by omega)]

theorem fill_some {place : Nat → Option (Nat × Nat)} (c : Cx P σ tm h w a) : ∀ (ps : List (Nat × Operand)) (qs : List (Nat × Nat × AO)) (vs : List (Nat × Nat × V)) (cs cs' : List V) (C : List Value),
    cParts P place ps = some qs → evParts qs tm = some vs → fillV cs vs = some cs' → concs σ cs = some C →
    ∃ C', Instr.fill place C.toArray (ps.map fun p => (p.1, a.eval p.2)) = some C'.toArray ∧ concs σ cs' = some C'
  | [], qs, vs, cs, cs', C, h1, h2, h3, h4 => by
    simp only [cParts] at h1; cases h1; cases h2
    simp only [fillV] at h3; cases h3
    exact ⟨C, rfl, h4⟩
  | (i, x) :: ps, qs, vs, cs, cs', C, h1, h2, h3, h4 => by
    simp only [cParts] at h1
    split at h1
    · next o s y r ho hy hr =>
      cases h1
      have h2' : consO (partO o s (y.ev tm)) (evParts r tm) = some vs := h2
      obtain ⟨p, vs', e1, e2, rfl⟩ := consO_some h2'
      unfold partO at e1
      split at e1
      · next v hv =>
        cases e1
        simp only [fillV] at h3
        revert h3
        cases hb : (Nat.beq v.cells.length s && Nat.ble (o + s) cs.length) with
        | false => intro h3; cases h3
        | true =>
          intro h3
          rw [Bool.and_eq_true] at hb
          have hs : v.cells.length = s := Nat.eq_of_beq_eq_true hb.1
          have ho' : o + s ≤ cs.length := Nat.le_of_ble_eq_true hb.2
          simp only [cond_true] at h3
          split at h3
          · next cs1 hcs1 =>
            have hx := opnd c hy hv
            have hxc := conc_cells hx
            have hlen := concs_length hxc
            have hC := concs_length h4
            have hsz : (a.eval x).cells.size = s := by rw [← hs, ← hlen]; simp
            let C1 := (a.eval x).cells.zipIdx.foldl (fun cs (p : Value × Nat) => cs.setIfInBounds (o + p.2) p.1) C.toArray
            have hfold := foldl_set o (a.eval x).cells.toList 0 C.toArray (by simp [hC, hsz]; omega)
            have hC1 : C1 = ((a.eval x).cells.toList.zipIdx 0).foldl (fun cs (p : Value × Nat) => cs.setIfInBounds (o + p.2) p.1) C.toArray := by
              show Array.foldl _ _ _ = _
              rw [← Array.foldl_toList, Array.toList_zipIdx]
            have hconc1 : concs σ cs1 = some C1.toList := by
              refine concs_of_get (by rw [putAt_length _ _ _ _ hcs1, ← hC]; simp [hC1, hfold.1]) (fun j u hu => ?_)
              rw [putAt_get _ _ _ _ hcs1] at hu
              have hg := hfold.2 j
              rw [← hC1] at hg
              have hcl : (a.eval x).cells.toList.length = v.cells.length := hlen
              split at hu
              · next hj =>
                obtain ⟨z, z1, z2⟩ := concs_get hxc hu
                refine ⟨z, z1, ?_⟩
                rw [← Array.getElem?_toList] at hg
                rw [hg, if_pos (by omega)]
                simpa using z2
              · next hj =>
                obtain ⟨z, z1, z2⟩ := concs_get h4 hu
                refine ⟨z, z1, ?_⟩
                rw [← Array.getElem?_toList] at hg
                rw [hg, if_neg (by omega)]
                simpa using z2
            obtain ⟨C', f1, f2⟩ := fill_some c ps r vs' cs1 cs' C1.toList hr e2 h3 hconc1
            refine ⟨C', ?_, f2⟩
            have hnot : ¬ ((a.eval x).cells.size ≠ s || decide (o + (a.eval x).cells.size > C.toArray.size)) = true := by
              simp [hsz, hC]; omega
            simp only [List.map_cons, Instr.fill, ho]
            rw [if_neg hnot]
            simpa [C1] using f1
          · cases h3
      · cases e1
    · cases h1

theorem cZero_spec {t : TypeId} {zs : List V} (hz : cZero P t = some zs) : ∃ i z, P.info? t = some i ∧ i.zero = some z ∧ concs σ zs = some z.cells.toList := by
  unfold cZero at hz
  split at hz
  · next i hi =>
    split at hz
    · next z hz' => exact ⟨i, z, hi, hz', mapO_cScalar hz⟩
    · cases hz
  · cases hz

end Go.Proofs.YtgnpoaoekhplhaaGreatDoor.AE
namespace Go.Proofs.YtgnpoaoekhplhaaGreatDoor.AE
open Go
variable {P : Program} {w : World} {σ : Sg} {tm : Tm} {a : Act} {h : Hp}

theorem pl_add (p : Pl) (off n : Nat) : (p.at off).add n = p.at (off + n) := by
  unfold Addr.add
  split
  · next e => subst e; rfl
  · simp [Pl.at, Nat.add_assoc]

theorem szOf_run {t : TypeId} {n : Nat} (hs : szOf P t = some n) : (sizeOf t).run P w = .ok n w := by
  unfold szOf at hs
  split at hs
  · next i hi => cases hs; simp [sizeOf, typeInfo, hi]
  · cases hs

theorem shapeOf_none {t : TypeId} (hs : shapeOf P t = some none) : (isAgg t).run P w = .ok false w := by
  unfold shapeOf at hs
  split at hs
  · split at hs <;> cases hs
  · split at hs <;> cases hs
  · next d h1 h2 hu =>
    unfold isAgg
    cases d <;> first | (exact (h1 _ rfl).elim) | (exact (h2 _ _ rfl).elim) | simp [run_underlying hu]
  · cases hs

theorem shapeOf_some {t : TypeId} {n : Nat} (hs : shapeOf P t = some (some n)) : (isAgg t).run P w = .ok true w ∧ (sizeOf t).run P w = .ok n w := by
  unfold shapeOf at hs
  split at hs
  · next hu =>
    split at hs
    · next m hm => cases hs; exact ⟨by simp [isAgg, run_underlying hu], szOf_run hm⟩
    · cases hs
  · next hu =>
    split at hs
    · next m hm => cases hs; exact ⟨by simp [isAgg, run_underlying hu], szOf_run hm⟩
    · cases hs
  · cases hs
  · cases hs

theorem cell_of (hw : WR P σ h w) {id : Nat} {pl : Pl} (hp : σ id = some pl) {cs : List V} {ty : Nat} {op : Option Nat} {ro sb : Bool} {fz : Nat} (hg : h.get id = some (.c cs ty op ro sb fz))
    {off : Nat} {v : V} (hv : cs[off]? = some v) : ∃ x, conc σ v = some x ∧ w.cell? (pl.at off) = some x := by
  obtain ⟨pl', hp', C, lo, hi, hC, hcs, _⟩ := hw.blk _ _ hg
  rw [hp] at hp'; cases hp'
  obtain ⟨x, h1, h2⟩ := hcs off v hv
  exact ⟨x, h1, by simp [World.cell?, Pl.at, hC, h2]⟩

theorem cells_of (hw : WR P σ h w) {id : Nat} {pl : Pl} (hp : σ id = some pl) {off n : Nat} {l : List V} (hl : cellsN off n (h.get id) = some l) :
    ∃ xs, concs σ l = some xs ∧ xs.length = n ∧ ∀ j v, xs[j]? = some v → w.cell? ((pl.at off).add j) = some v := by
  unfold cellsN at hl
  split at hl
  · next cs ty op ro sb fz hg =>
    obtain ⟨e, hle⟩ := takeN_some _ _ _ hl
    rw [dropN_eq] at e hle
    subst e
    obtain ⟨pl', hp', C, lo, hi, hC, hcs, _⟩ := hw.blk _ _ hg
    rw [hp] at hp'; cases hp'
    have hlen : ((cs.drop off).take n).length = n := by simp at hle ⊢; omega
    refine ⟨((C.toList.drop (pl.base + off)).take n), ?_, ?_, ?_⟩
    · have hdrop : ∀ (i : Nat) (v : V), ((cs.drop off).take n)[i]? = some v → ∃ x, conc σ v = some x ∧ ((C.toList.drop (pl.base + off)).take n)[i]? = some x := by
        intro i v hv
        rw [List.getElem?_take] at hv ⊢
        split at hv
        · next hi =>
          rw [if_pos hi]
          rw [List.getElem?_drop] at hv ⊢
          obtain ⟨x, h1, h2⟩ := hcs _ _ hv
          refine ⟨x, h1, ?_⟩
          rw [← Nat.add_assoc] at h2
          simpa using h2
        · cases hv
      refine concs_of_get ?_ hdrop
      rw [hlen]
      cases n with
      | zero => simp
      | succ m =>
        have hm : ((cs.drop off).take (m + 1))[m]? = some ((cs.drop off).take (m + 1))[m] := List.getElem?_eq_getElem (by omega)
        obtain ⟨x, _, h2⟩ := hdrop m _ hm
        have := (List.getElem?_eq_some_iff.1 h2).1
        simp at this ⊢; omega
    · cases n with
      | zero => simp
      | succ m =>
        have hm : (cs.drop off)[m]? = some (cs.drop off)[m] := List.getElem?_eq_getElem (by omega)
        rw [List.getElem?_drop] at hm
        obtain ⟨x, _, h2⟩ := hcs _ _ hm
        have := (Array.getElem?_eq_some_iff.1 h2).1
        simp; omega
    · intro j v hv
      rw [List.getElem?_take] at hv
      split at hv
      · next hj =>
        rw [List.getElem?_drop] at hv
        rw [pl_add]
        have : C[pl.base + (off + j)]? = some v := by rw [← Nat.add_assoc]; simpa using hv
        simp [World.cell?, Pl.at, hC, this]
      · cases hv
  · cases hl

theorem Hp.cells_eq (h : Hp) (id off n : Nat) : h.cells id off n = cellsN off n (h.get id) := by
  unfold Hp.cells cellsN
  split <;> rfl

/-- Reading a variable. -/
theorem ld_run (c : Cx P σ tm h w a) {t : TypeId} {n : Option Nat} (hs : shapeOf P t = some n) {u v : V} {x : Value} (hu : conc σ u = some x) (hv : ldV n (some u) h = some v) :
    ∃ z, conc σ v = some z ∧ (Instr.loadAt t x).run P w = .ok z w ∧ (∃ A, x = .pointer (some A) ∧ (loadVar t A).run P w = .ok z w) := by
  cases u <;> try (cases n <;> (simp only [ldV] at hv; cases hv); done)
  rename_i id off
  obtain ⟨pl, hp, rfl⟩ := conc_p_inv hu
  cases n with
  | none =>
    simp only [ldV, cell1] at hv
    split at hv
    · next cs ty op ro sb fz hg =>
      rw [nth_eq] at hv
      obtain ⟨z, h1, h2⟩ := cell_of c.wr hp hg hv
      have : (loadVar t (pl.at off)).run P w = .ok z w := by
        unfold loadVar
        simp [shapeOf_none hs, load, Sem.run, h2]
      exact ⟨z, h1, by simp [Instr.loadAt, Instr.sureAddr, this], _, rfl, this⟩
    · cases hv
  | some n =>
    simp only [ldV, agO] at hv
    split at hv
    · next l hl =>
      cases hv
      obtain ⟨xs, h1, h2, h3⟩ := cells_of c.wr hp hl
      obtain ⟨ha, hz⟩ := shapeOf_some (w := w) hs
      have hrun := run_loadCells_list (P := P) w (pl.at off) xs h3
      rw [h2] at hrun
      have : (loadVar t (pl.at off)).run P w = .ok (.agg xs.toArray) w := by
        unfold loadVar
        simp [ha, hz, hrun]
      exact ⟨.agg xs.toArray, by simp only [conc, h1], by simp [Instr.loadAt, Instr.sureAddr, this], _, rfl, this⟩
    · cases hv

theorem natOf_run {x : Option V} {d n : Nat} (hn : natOf x d = some n) {y : Option Value} (hx : ∀ v, x = some v → ∃ z, y = some z ∧ conc σ v = some z) (hx' : x = none → y = none) :
    (x = none ∧ y = none ∧ n = d) ∨ ∃ k, y = some (.int k (n : Int)) := by
  unfold natOf at hn
  split at hn
  · cases hn; exact .inl ⟨rfl, hx' rfl, rfl⟩
  · next k m =>
    cases hn
    obtain ⟨z, h1, h2⟩ := hx _ rfl
    simp only [conc] at h2; cases h2
    exact .inr ⟨k, h1⟩
  · cases hn

theorem opt_opnd (c : Cx P σ tm h w a) {x : Option Operand} {y : Option AO} {v : Option V} (hc : cOptO P x = some y) (hv : evO y tm = some v) :
    (∀ u, v = some u → ∃ z, x.map a.eval = some z ∧ conc σ u = some z) ∧ (v = none → x.map a.eval = none) := by
  unfold cOptO at hc
  split at hc
  · cases hc
    simp only [evO] at hv; cases hv
    exact ⟨fun u e => (by cases e), fun _ => rfl⟩
  · split at hc
    · next y' hy =>
      cases hc
      simp only [evO] at hv
      split at hv
      · next u hu =>
        cases hv
        exact ⟨fun u' e => (by cases e; exact ⟨_, rfl, opnd c hy hu⟩), fun e => (by cases e)⟩
      · cases hv
    · cases hc

/-- The bounds of a slice expression. -/
theorem bounds_run (isSlice : Bool) (len cap : Nat) {lo hi mx : Option V} {lo' hi' mx' : Option Value} {l r m : Nat}
    (h1 : natOf mx cap = some m) (h2 : natOf hi len = some r) (h3 : natOf lo 0 = some l)
    (x1 : ∀ v, mx = some v → ∃ z, mx' = some z ∧ conc σ v = some z) (x1' : mx = none → mx' = none)
    (x2 : ∀ v, hi = some v → ∃ z, hi' = some z ∧ conc σ v = some z) (x2' : hi = none → hi' = none)
    (x3 : ∀ v, lo = some v → ∃ z, lo' = some z ∧ conc σ v = some z) (x3' : lo = none → lo' = none)
    (hm : mx = none ∨ hi.isSome = true)
    (b1 : m ≤ cap) (b2 : r ≤ m) (b3 : l ≤ r) : (Instr.sliceBounds isSlice len cap lo' hi' mx').run P w = .ok (l, r, m) w := by
  unfold Instr.sliceBounds
  rcases natOf_run h1 x1 x1' with ⟨rfl, rfl, rfl⟩ | ⟨k1, rfl⟩
  · rcases natOf_run h2 x2 x2' with ⟨rfl, rfl, rfl⟩ | ⟨k2, rfl⟩
    · rcases natOf_run h3 x3 x3' with ⟨rfl, rfl, rfl⟩ | ⟨k3, rfl⟩
      · simp
      · have := run_sliceBound (P := P) (w := w) k3 (l : Int) r (if (none : Option Value).isSome then .slice3C else .sliceB) (by omega) (by omega)
        simp at this; simp [this]
    · have e2 := fun code => run_sliceBound (P := P) (w := w) k2 (r : Int) m code (by omega) (by omega)
      simp at e2
      rcases natOf_run h3 x3 x3' with ⟨rfl, rfl, rfl⟩ | ⟨k3, rfl⟩
      · simp [e2]
      · have e3 := fun code => run_sliceBound (P := P) (w := w) k3 (l : Int) r code (by omega) (by omega)
        simp at e3
        simp [e2, e3]
  · have e1 := fun code => run_sliceBound (P := P) (w := w) k1 (m : Int) cap code (by omega) (by omega)
    simp at e1
    rcases natOf_run h2 x2 x2' with ⟨rfl, rfl, rfl⟩ | ⟨k2, rfl⟩
    · exfalso
      rcases hm with rfl | hm
      · have := x1' rfl; cases this
      · cases hm
    · have e2 := fun code => run_sliceBound (P := P) (w := w) k2 (r : Int) m code (by omega) (by omega)
      simp at e2
      rcases natOf_run h3 x3 x3' with ⟨rfl, rfl, rfl⟩ | ⟨k3, rfl⟩
      · simp [e1, e2]
      · have e3 := fun code => run_sliceBound (P := P) (w := w) k3 (l : Int) r code (by omega) (by omega)
        simp at e3
        simp [e1, e2, e3]

end Go.Proofs.YtgnpoaoekhplhaaGreatDoor.AE
namespace Go.Proofs.YtgnpoaoekhplhaaGreatDoor.AE
open Go
variable {P : Program} {w : World} {σ : Sg} {tm : Tm} {a : Act} {h : Hp}

/-! ### Slice expressions -/
theorem strO_some {l : Option (List UInt8)} {v : V} (e : strO l = some v) : ∃ r, l = some r ∧ v = .s r := by
  unfold strO at e
  split at e
  · cases e; exact ⟨_, rfl, rfl⟩
  · cases e

theorem extract_mk (l : List UInt8) (i j : Nat) : (⟨l.toArray⟩ : ByteArray).extract i j = ⟨((l.drop i).take (j - i)).toArray⟩ := by
  apply ByteArray.ext
  rw [ByteArray.data_extract]
  simp

theorem slcC_some {esz id off cap : Nat} {m r l : Option Nat} {v : V} (e : slcC esz id off cap m r l = some v) :
    ∃ m' r' l', m = some m' ∧ r = some r' ∧ l = some l' ∧ m' ≤ cap ∧ r' ≤ m' ∧ l' ≤ r' ∧
      v = .sl id (if m' = l' then off else off + l' * esz) (r' - l') (some (m' - l')) := by
  unfold slcC at e
  split at e
  · next m' r' l' =>
    revert e
    cases hb : (Nat.ble m' cap && Nat.ble r' m' && Nat.ble l' r') with
    | false => intro e; cases e
    | true =>
      intro e
      rw [Bool.and_eq_true, Bool.and_eq_true] at hb
      simp only [cond_true] at e
      cases e
      refine ⟨m', r', l', rfl, rfl, rfl, Nat.le_of_ble_eq_true hb.1.1, Nat.le_of_ble_eq_true hb.1.2, Nat.le_of_ble_eq_true hb.2, ?_⟩
      by_cases hq : m' = l'
      · subst hq; simp
      · have : Nat.beq m' l' = false := by
          cases hh : Nat.beq m' l' with
          | false => rfl
          | true => exact absurd (Nat.eq_of_beq_eq_true hh) hq
        simp [this, hq]
  · cases e

theorem slcO_some {esz id off avail : Nat} {r l : Option Nat} {v : V} (e : slcO esz id off avail r l = some v) :
    ∃ r' l', r = some r' ∧ l = some l' ∧ r' ≤ avail ∧ l' ≤ r' ∧ (l' = 0 ∨ l' < avail) ∧ v = .sl id (off + l' * esz) (r' - l') none := by
  unfold slcO at e
  split at e
  · next r' l' =>
    revert e
    cases hb : (Nat.ble r' avail && Nat.ble l' r' && (Nat.beq l' 0 || Nat.blt l' avail)) with
    | false => intro e; cases e
    | true =>
      intro e
      rw [Bool.and_eq_true, Bool.and_eq_true, Bool.or_eq_true] at hb
      simp only [cond_true] at e
      cases e
      refine ⟨r', l', rfl, rfl, Nat.le_of_ble_eq_true hb.1.1, Nat.le_of_ble_eq_true hb.1.2, ?_, rfl⟩
      rcases hb.2 with h1 | h1
      · exact .inl (Nat.eq_of_beq_eq_true h1)
      · exact .inr (Nat.le_of_ble_eq_true h1)
  · cases e

theorem pl_at_add_map (p : Pl) (off n : Nat) : (some (p.at off)).map (fun a : Addr => a.add n) = some (p.at (off + n)) := by
  simp [pl_add]

theorem natOf_isSome {x : Option V} {d d' n : Nat} (hx : x.isSome = true) (e : natOf x d = some n) : natOf x d' = some n := by
  unfold natOf at e ⊢
  split at e
  · cases hx
  · exact e
  · cases e

/-- The kinds of slice expressions. -/
inductive SKOK (P : Program) (t : TypeId) : SK → Prop
  | str : P.underlying t = some .string → SKOK P t .str
  | sl {e esz : Nat} : P.underlying t = some (.slice e) → szOf P e = some esz → SKOK P t (.sl esz)
  | ar {n e esz : Nat} : P.underlying t = some (.array n e) → szOf P e = some esz → SKOK P t (.ar n esz)

theorem slc_run (c : Cx P σ tm h w a) {t : TypeId} {k : SK} (hk : SKOK P t k) {u v : V} {x : Value} (hu : conc σ u = some x)
    {lo hi mx : Option V} {lo' hi' mx' : Option Value} (x1 : (∀ v, mx = some v → ∃ z, mx' = some z ∧ conc σ v = some z) ∧ (mx = none → mx' = none))
    (x2 : (∀ v, hi = some v → ∃ z, hi' = some z ∧ conc σ v = some z) ∧ (hi = none → hi' = none))
    (x3 : (∀ v, lo = some v → ∃ z, lo' = some z ∧ conc σ v = some z) ∧ (lo = none → lo' = none))
    (hm : mx = none ∨ hi.isSome = true) (hv : slcV k u lo hi mx h = some v) :
    ∃ z, conc σ v = some z ∧ (Instr.sliceAt t x lo' hi' mx').run P w = .ok z w := by
  cases hk with
  | str hu' =>
    simp only [slcV] at hv
    split at hv
    · next lo hi h' l =>
      simp only [conc] at hu; cases hu
      unfold slcS at hv
      split at hv
      · next r l' e1 e2 =>
        revert hv
        cases hb : (Nat.ble r l.length && Nat.ble l' r) with
        | false => intro hv; cases hv
        | true =>
          intro hv
          rw [Bool.and_eq_true] at hb
          simp only [cond_true] at hv
          obtain ⟨q, q1, rfl⟩ := strO_some hv
          obtain ⟨q2, _⟩ := takeN_some _ _ _ q1
          rw [dropN_eq] at q2; subst q2
          have e0 : natOf (none : Option V) l.length = some l.length := rfl
          have hb1 := Nat.le_of_ble_eq_true hb.1
          have hb2 := Nat.le_of_ble_eq_true hb.2
          have hmx : mx' = none := x1.2 rfl
          subst hmx
          have hrun := bounds_run (P := P) (w := w) (σ := σ) (mx' := none) false l.length l.length e0 e1 e2 (fun v e => by cases e) (fun _ => rfl) x2.1 x2.2 x3.1 x3.2 (.inl rfl) (Nat.le_refl _) hb1 hb2
          have hsz : (⟨l.toArray⟩ : ByteArray).size = l.length := by show l.toArray.size = _; simp
          refine ⟨_, rfl, ?_⟩
          rw [← extract_mk]
          simp [Instr.sliceAt, run_underlying hu', Instr.slice, hsz, hrun]
      · cases hv
    · cases hv
  | @sl e esz hu' hs =>
    have hsz := szOf_run (w := w) hs
    simp only [slcV] at hv
    split at hv
    · -- nil
      next lo hi mx h' =>
      simp only [conc] at hu; cases hu
      split at hv
      · next e1 e2 e3 =>
        cases hv
        have hrun := bounds_run (P := P) (w := w) (σ := σ) true 0 0 e1 e2 e3 x1.1 x1.2 x2.1 x2.2 x3.1 x3.2 hm (Nat.le_refl _) (Nat.le_refl _) (Nat.le_refl _)
        exact ⟨_, rfl, by simp [Instr.sliceAt, run_underlying hu', Instr.slice, hrun, hsz]⟩
      · cases hv
    · -- exact
      next lo hi mx h' id off len cap =>
      obtain ⟨pl, k', hp, rfl, hk'⟩ := conc_sl_inv hu
      simp only at hk'; subst hk'
      obtain ⟨m, r, l, e1, e2, e3, b1, b2, b3, rfl⟩ := slcC_some hv
      have hrun := bounds_run (P := P) (w := w) (σ := σ) true len k' e1 e2 e3 x1.1 x1.2 x2.1 x2.2 x3.1 x3.2 hm b1 b2 b3
      refine ⟨.slice (if m = l then some (pl.at off) else (some (pl.at off)).map (·.add (l * esz))) (r - l) (m - l), ?_, ?_⟩
      · rw [pl_at_add_map]
        simp only [conc, hp]
        by_cases hq : m = l <;> simp [hq]
      · simp [Instr.sliceAt, run_underlying hu', Instr.slice, hrun, hsz]
    · -- growing
      next lo hi mx h' id off len =>
      obtain ⟨pl, k', hp, rfl, hk'⟩ := conc_sl_inv hu
      simp only at hk'
      split at hv
      · next cs ty e' ro sb fz hg =>
        revert hv
        cases hb : Nat.beq e' esz with
        | false => intro hv; cases hv
        | true =>
          have he := Nat.eq_of_beq_eq_true hb
          subst he
          simp only [cond_true]
          intro hv
          obtain ⟨pl', hp', C, lo0, hi0, hC, hcs, _, _, hpos, hpe, hcap, hlen⟩ := c.wr.blk _ _ hg
          rw [hp] at hp'; cases hp'
          have havail : (cs.length - off) / e' ≤ k' := by
            rw [hk', hpe]
            have h1 : (cs.length - off) / e' ≤ (pl.ecap * e' - off) / e' := Nat.div_le_div_right (by omega)
            refine Nat.le_trans h1 ?_
            rw [Nat.div_le_iff_le_mul_add_pred hpos]
            have h2 : e' * (off / e') ≤ off := Nat.mul_div_le _ _
            have h3 : off < e' * (off / e') + e' := Nat.lt_mul_div_succ off hpos
            rw [Nat.mul_sub]
            have h4 : e' * pl.ecap = pl.ecap * e' := Nat.mul_comm _ _
            omega
          have hdiv : ∀ l', (off + l' * e') / e' = off / e' + l' := fun l' => Nat.add_mul_div_right _ _ hpos
          split at hv
          · next m0 =>
            obtain ⟨m, r, l, e1, e2, e3, b1, b2, b3, rfl⟩ := slcC_some hv
            have e1' := natOf_isSome (d' := k') rfl e1
            have e2' := natOf_isSome (d' := len) (hm.resolve_left (by simp)) e2
            have hrun := bounds_run (P := P) (w := w) (σ := σ) true len k' e1' e2' e3 x1.1 x1.2 x2.1 x2.2 x3.1 x3.2 hm (by omega) b2 b3
            refine ⟨.slice (if m = l then some (pl.at off) else (some (pl.at off)).map (·.add (l * e'))) (r - l) (m - l), ?_, ?_⟩
            · rw [pl_at_add_map]
              simp only [conc, hp]
              by_cases hq : m = l <;> simp [hq]
            · simp [Instr.sliceAt, run_underlying hu', Instr.slice, hrun, hsz]
          · obtain ⟨r, l, e2, e3, b2, b3, b4, rfl⟩ := slcO_some hv
            have e1 : natOf (none : Option V) k' = some k' := rfl
            have hrun := bounds_run (P := P) (w := w) (σ := σ) (mx' := mx') true len k' e1 e2 e3 x1.1 x1.2 x2.1 x2.2 x3.1 x3.2 (.inl rfl) (Nat.le_refl _) (by omega) b3
            refine ⟨.slice (if k' = l then some (pl.at off) else (some (pl.at off)).map (·.add (l * e'))) (r - l) (k' - l), ?_, ?_⟩
            · rw [pl_at_add_map]
              simp only [conc, hp]
              have hkk : pl.ecap - (off + l * e') / pl.esz = k' - l := by rw [hpe, hdiv, hk', hpe]; omega
              rw [hkk]
              by_cases hq : k' = l
              · have : l = 0 := by omega
                subst this; simp
              · simp [hq]
            · simp [Instr.sliceAt, run_underlying hu', Instr.slice, hrun, hsz]
      · cases hv
    · cases hv
  | @ar n e esz hu' hs =>
    have hsz := szOf_run (w := w) hs
    simp only [slcV] at hv
    split at hv
    · next lo hi mx h' id off =>
      obtain ⟨pl, hp, rfl⟩ := conc_p_inv hu
      obtain ⟨m, r, l, e1, e2, e3, b1, b2, b3, rfl⟩ := slcC_some hv
      have hrun := bounds_run (P := P) (w := w) (σ := σ) false n n e1 e2 e3 x1.1 x1.2 x2.1 x2.2 x3.1 x3.2 hm b1 b2 b3
      refine ⟨.slice (some (if m = l then pl.at off else (pl.at off).add (l * esz))) (r - l) (m - l), ?_, ?_⟩
      · rw [pl_add]
        simp only [conc, hp]
        by_cases hq : m = l <;> simp [hq]
      · simp [Instr.sliceAt, run_underlying hu', Instr.sureAddr, hrun, hsz]
    · cases hv

end Go.Proofs.YtgnpoaoekhplhaaGreatDoor.AE
namespace Go.Proofs.YtgnpoaoekhplhaaGreatDoor.AE
open Go
variable {P : Program} {w : World} {σ : Sg} {tm : Tm} {a : Act} {h : Hp}

theorem agO_some {l : Option (List V)} {v : V} (e : agO l = some v) : ∃ r, l = some r ∧ v = .ag r := by
  unfold agO at e
  split at e
  · cases e; exact ⟨_, rfl, rfl⟩
  · cases e

/-- A part of a struct or an array. -/
theorem part_run {t : TypeId} {n : Option Nat} (hs : shapeOf P t = some n) {l : List V} {X : List Value} (hl : concs σ l = some X) {off : Nat} {v : V} (hv : part1 off n l = some v) :
    ∃ z, conc σ v = some z ∧ (part t X.toArray off).run P w = .ok z w := by
  cases n with
  | none =>
    simp only [part1, nth_eq] at hv
    obtain ⟨x, h1, h2⟩ := concs_get hl hv
    exact ⟨x, h1, by simp [part, shapeOf_none hs, h2]⟩
  | some n =>
    simp only [part1, dropN_eq] at hv
    obtain ⟨r, h1, rfl⟩ := agO_some hv
    obtain ⟨rfl, h2⟩ := takeN_some _ _ _ h1
    obtain ⟨ha, hz⟩ := shapeOf_some (w := w) hs
    refine ⟨.agg ((X.drop off).take n).toArray, by simp only [conc, concs_take (concs_drop hl off) n], ?_⟩
    simp [part, ha, hz]

theorem readBytes_conc : ∀ {l : List V} {s : List UInt8} {xs : List Value}, readBytes l = some s → concs σ l = some xs →
    ∃ ns : List Int, xs = ns.map (Value.int .u8) ∧ s = ns.map fun n => UInt8.ofNat n.toNat
  | [], s, xs, h1, h2 => by
    simp only [readBytes] at h1; cases h1
    simp only [concs] at h2; cases h2
    exact ⟨[], rfl, rfl⟩
  | v :: l, s, xs, h1, h2 => by
    obtain ⟨x, ys, e1, e2, rfl⟩ := concs_cons h2
    unfold readBytes at h1
    split at h1
    · cases ‹_ :: _ = []›
    · next n l' e =>
      cases e
      split at h1
      · next r hr =>
        cases h1
        obtain ⟨ns, rfl, rfl⟩ := readBytes_conc hr e2
        simp only [conc] at e1; cases e1
        exact ⟨(n : Int) :: ns, rfl, rfl⟩
      · cases h1
    · cases h1

theorem foldl_push : ∀ (ns : List Int) (r : ByteArray), ns.foldl (fun r n => r.push (UInt8.ofNat n.toNat)) r = ⟨r.data ++ (ns.map fun n => UInt8.ofNat n.toNat).toArray⟩
  | [], r => by simp
  | n :: ns, r => by
    rw [List.foldl_cons, foldl_push ns]
    apply ByteArray.ext
    simp [ByteArray.push]

theorem bytesToString_run (c : WR P σ h w) {id off len : Nat} {cap : Option Nat} {pl : Pl} (hp : σ id = some pl) {v : V} (hv : bytesO (h.cells id off len) = some v) (k : Nat) :
    ∃ z, conc σ v = some z ∧ (Conv.bytesToString (.slice (some (pl.at off)) len k)).run P w = .ok z w := by
  unfold bytesO at hv
  split at hv
  · next cs hcs =>
    obtain ⟨s, h1, rfl⟩ := strO_some hv
    rw [Hp.cells_eq] at hcs
    obtain ⟨xs, e1, e2, e3⟩ := cells_of c hp hcs
    obtain ⟨ns, rfl, rfl⟩ := readBytes_conc h1 e1
    have hl := run_loadCells_list (P := P) w (pl.at off) _ e3
    rw [e2] at hl
    refine ⟨_, rfl, ?_⟩
    rw [run_bytesToString w (pl.at off) len k ns hl, foldl_push]
    congr 3
    show (#[] : Array UInt8) ++ _ = _
    simp
  · cases hv

theorem cellsOf_eq {t : TypeId} {n : Nat} (hs : szOf P t = some n) : P.cellsOf t = n := by
  unfold szOf at hs
  split at hs
  · next i hi => cases hs; simp [Program.cellsOf, hi]
  · cases hs

theorem liesAt_self {e : TypeId} {n : Nat} (hc : P.cellsOf e = n + 1) (count m : Nat) (hm : m ≤ count) : liesAt P P.depth e count 0 e m = true := by
  have hd : P.depth = (2 * (P.types.size + Made.depth) + 1) + 1 := rfl
  rw [hd]
  simp only [liesAt, Bool.or_eq_true]
  left
  rw [hd]
  simp [rowAt, hc, hm, sameLayout]

theorem shape_of (c : WR P σ h w) {id : Nat} {pl : Pl} (hp : σ id = some pl) {cs : List V} {ty : Nat} {ro sb : Bool} {fz : Nat} (hg : h.get id = some (.c cs ty none ro sb fz)) :
    w.shape? pl.blk = some (ty, cs.length) ∧ pl.base = 0 := by
  obtain ⟨pl', hp', C, lo, hi, hC, _, _, _, hb, hsz⟩ := c.blk _ _ hg
  rw [hp] at hp'; cases hp'
  exact ⟨by simp [World.shape?, hC, hsz], hb⟩

theorem mm_run (big : Bool) (x1 : V) (l : List V) (v : V) (hv : mmV big x1 l = some v) : ∀ (x : Value) (xs : List Value), conc σ x1 = some x → concs σ l = some xs →
    ∃ z, conc σ v = some z ∧ (xs.foldlM (if big then Builtin.max2 else Builtin.min2) x).run P w = .ok z w := by
  induction l generalizing x1 with
  | nil =>
    intro x xs h1 h2
    simp only [concs] at h2; cases h2
    cases x1 <;> (simp only [mmV] at hv; cases hv; exact ⟨x, h1, by simp⟩)
  | cons y l ih =>
    intro x xs h1 h2
    obtain ⟨y', ys, e1, e2, rfl⟩ := concs_cons h2
    cases x1 <;> try (simp only [mmV] at hv; cases hv; done)
    cases y <;> try (simp only [mmV] at hv; cases hv; done)
    rename_i k m k' m'
    simp only [mmV] at hv
    revert hv
    cases hk : Nat.beq (ikn k) (ikn k') with
    | false => intro hv; cases hv
    | true =>
      intro hv
      simp only [cond_true] at hv
      have := ikn_inj hk; subst this
      simp only [conc] at h1 e1; cases h1; cases e1
      obtain ⟨z, z1, z2⟩ := ih _ hv _ ys rfl e2
      refine ⟨z, z1, ?_⟩
      rw [List.foldlM_cons]
      cases big with
      | true =>
        simp only [if_true, Builtin.max2, Sem.run_bind, Sem.run_pure, Result.andThen] at z2 ⊢
        rw [← z2]
        congr 3
        simp only [cond_true, ltI_eq]
        by_cases hlt : m < m' <;> simp [hlt]
      | false =>
        simp only [Bool.false_eq_true, if_false, Builtin.min2, Sem.run_bind, Sem.run_pure, Result.andThen] at z2 ⊢
        rw [← z2]
        congr 3
        simp only [cond_false, ltI_eq]
        by_cases hlt : m' < m <;> simp [hlt]

end Go.Proofs.YtgnpoaoekhplhaaGreatDoor.AE
namespace Go.Proofs.YtgnpoaoekhplhaaGreatDoor.AE
open Go
variable {P : Program} {w : World} {σ : Sg} {tm : Tm} {a : Act} {h : Hp}

abbrev QOK (P : Program) (σ : Sg) (w : World) (a : Act) (o : Oper) (v : V) : Prop := ∃ x, conc σ v = some x ∧ (execOp a.eval o).run P w = .ok (.value x) w

theorem map_some {α β : Type} {f : α → β} {x : Option α} {y : β} (e : x.map f = some y) : ∃ z, x = some z ∧ f z = y := by
  cases x with
  | none => cases e
  | some z => exact ⟨z, rfl, by simpa using e⟩

theorem qev_mov (c : Cx P σ tm h w a) {o : Oper} {x : Operand} (ho : o.op = .move x ∨ o.op = .assign x) {y : AO} (hy : cOpnd P x = some y) {v : V} (hv : y.ev tm = some v) : QOK P σ w a o v :=
  ⟨_, opnd c hy hv, by rcases ho with ho | ho <;> simp [execOp, ho]⟩

theorem qev_pick (c : Cx P σ tm h w a) {o : Oper} {x y z : Operand} (ho : o.op = .pick x y z) {x' y' z' : AO} (hx : cOpnd P x = some x') (hy : cOpnd P y = some y') (hz : cOpnd P z = some z')
    {v : V} (hv : pickV (x'.ev tm) (y'.ev tm) (z'.ev tm) = some v) : QOK P σ w a o v := by
  unfold pickV at hv
  split at hv
  · next h1 =>
    have hb := opnd c hx h1
    simp only [conc, Option.some.injEq] at hb
    exact ⟨_, opnd c hy hv, by simp [execOp, ho, ← hb, asBool]⟩
  · next h1 =>
    have hb := opnd c hx h1
    simp only [conc, Option.some.injEq] at hb
    exact ⟨_, opnd c hz hv, by simp [execOp, ho, ← hb, asBool]⟩
  · cases hv

theorem qev_build (c : Cx P σ tm h w a) {o : Oper} {t : TypeId} {ps : Array (Nat × Operand)} (ho : o.op = .build t ps) {zs : List V} (hz : cZero P t = some zs)
    {place : Nat → Option (Nat × Nat)} {qs : List (Nat × Nat × AO)} (hq : cParts P place ps.toList = some qs)
    (hb : ∀ i z C, P.info? t = some i → i.zero = some z → Instr.fill place z.cells (ps.map fun p => (p.1, a.eval p.2)).toList = some C → P.built t (ps.map fun p => (p.1, a.eval p.2)).toList = some C)
    {v : V} (hv : agO (fillO zs (evParts qs tm)) = some v) : QOK P σ w a o v := by
  obtain ⟨cs, h1, rfl⟩ := agO_some hv
  unfold fillO at h1
  split at h1
  · next vs hvs =>
    obtain ⟨i, z, hi, hz1, hz2⟩ := cZero_spec (σ := σ) hz
    obtain ⟨C', f1, f2⟩ := fill_some c ps.toList qs vs zs cs z.cells.toList hq hvs h1 hz2
    have := hb i z C'.toArray hi hz1 (by rw [Array.toList_map]; simpa using f1)
    refine ⟨.agg C'.toArray, by simp only [conc, f2], ?_⟩
    have hr := run_build (P := P) w t (ps.map fun p => (p.1, a.eval p.2)) C'.toArray this
    simp [execOp, ho, hr]
  · cases h1

theorem qev_cv (c : Cx P σ tm h w a) {o : Oper} {src dst : TypeId} {x : Operand} (ho : o.op = .convert src dst x) {ao : AOp} (hc : cOp P o = some ao) (hk : kindOf ao = 0)
    {v : V} (hv : qev ao tm h = some v) : QOK P σ w a o v := by
  unfold cOp at hc
  rw [ho] at hc
  simp only at hc
  split at hc
  case h_2 => cases hc
  next y hy =>
  have hex : ∀ z, (convert src dst (a.eval x)).run P w = .ok z w → (execOp a.eval o).run P w = .ok (.value z) w := by
    intro z hz; simp [execOp, ho, hz]
  split at hc
  · -- integers
    next k hs hd =>
    cases hc
    simp only [qev, cvV] at hv
    split at hv
    · next k0 n _ e =>
      cases hv
      have hx := opnd c hy e
      simp only [conc, Option.some.injEq] at hx
      refine ⟨_, rfl, hex _ ?_⟩
      rw [← hx, wrapQ_eq]
      simp [convert, run_underlying hs, run_underlying hd, Conv.intToInt]
    · cases hv
  · -- strings
    next hs hd =>
    cases hc
    simp only [qev, cvV] at hv
    split at hv
    · next l _ e =>
      cases hv
      have hx := opnd c hy e
      simp only [conc, Option.some.injEq] at hx
      refine ⟨_, rfl, hex _ ?_⟩
      rw [← hx]
      simp [convert, run_underlying hs, run_underlying hd]
    · cases hv
  · -- to bytes: an effect
    split at hc
    · split at hc
      · cases hc; cases hk
      · cases hc
    · cases hc
  · -- from bytes
    next e hs hd =>
    split at hc
    · next he =>
      cases hc
      simp only [qev, cvV] at hv
      split at hv
      · next _ e1 =>
        cases hv
        have hx := opnd c hy e1
        simp only [conc, Option.some.injEq] at hx
        refine ⟨_, rfl, hex _ ?_⟩
        rw [← hx, run_convert_bytes_string w src dst e none 0 0 hs he hd]
        rfl
      · next id off len cap h' e1 =>
        have hx := opnd c hy e1
        obtain ⟨pl, k, hp, hxe, _⟩ := conc_sl_inv hx
        obtain ⟨z, z1, z2⟩ := bytesToString_run c.wr (cap := cap) hp hv k
        refine ⟨z, z1, hex _ ?_⟩
        rw [hxe, run_convert_bytes_string w src dst e _ _ _ hs he hd]
        exact z2
      · cases hv
    · cases hc
  · -- to unsafe.Pointer
    next t hs hd =>
    split at hc
    · next n hn =>
      cases hc
      have hn' := szOf_run (w := w) hn
      simp only [qev, cvV] at hv
      split at hv
      · next _ e1 =>
        cases hv
        have hx := opnd c hy e1
        simp only [conc, Option.some.injEq] at hx
        refine ⟨_, rfl, hex _ ?_⟩
        rw [← hx]
        simp [convert, run_underlying hs, run_underlying hd, Conv.unsafePointer]
      · next h' id off e1 =>
        have hx := opnd c hy e1
        split at hv
        · next v0 l ty ro sb fz hg =>
          revert hv
          cases hb : Nat.beq off 0 with
          | false => intro hv; cases hv
          | true =>
            intro hv; cases hv
            have := Nat.eq_of_beq_eq_true hb; subst this
            obtain ⟨pl, hp, hxe⟩ := conc_p_inv hx
            obtain ⟨hsh, hb0⟩ := shape_of c.wr hp hg
            refine ⟨_, hx, hex _ ?_⟩
            rw [hxe]
            simp [convert, run_underlying hs, run_underlying hd, Conv.unsafePointer, Conv.seenAt, viewAt, cellsIn, hsh, hn', Pl.at, hb0]
        · cases hv
      · cases hv
    · cases hc
  · -- from unsafe.Pointer
    next t hs hd =>
    split at hc
    · next n hn =>
      cases hc
      have hn' := szOf_run (w := w) hn
      simp only [qev, cvV] at hv
      split at hv
      · next _ e1 =>
        cases hv
        have hx := opnd c hy e1
        simp only [conc, Option.some.injEq] at hx
        refine ⟨_, rfl, hex _ ?_⟩
        rw [← hx]
        simp [convert, run_underlying hs, run_underlying hd, Conv.unsafePointer]
      · next h' id off e1 =>
        have hx := opnd c hy e1
        split at hv
        · next cs ty ro sb fz hg =>
          revert hv
          cases hb : (Nat.beq t ty && Nat.beq off 0 && Nat.ble (n + 1) cs.length) with
          | false => intro hv; cases hv
          | true =>
            intro hv; cases hv
            rw [Bool.and_eq_true, Bool.and_eq_true] at hb
            have h1 := Nat.eq_of_beq_eq_true hb.1.1
            have h2 := Nat.eq_of_beq_eq_true hb.1.2
            have h3 := Nat.le_of_ble_eq_true hb.2
            subst h1; subst h2
            obtain ⟨pl, hp, hxe⟩ := conc_p_inv hx
            obtain ⟨hsh, hb0⟩ := shape_of c.wr hp hg
            have hcell := cellsOf_eq hn
            have hl := liesAt_self (P := P) hcell (cs.length / P.cellsOf t) 1 (by rw [hcell]; exact Nat.div_pos h3 (by omega))
            refine ⟨_, hx, hex _ ?_⟩
            rw [hxe]
            simp [convert, run_underlying hs, run_underlying hd, Conv.unsafePointer, Conv.seenAt, viewAt, variablesAt, hsh, hn', Pl.at, hb0, hl]
        · cases hv
      · cases hv
    · cases hc
  · cases hc

end Go.Proofs.YtgnpoaoekhplhaaGreatDoor.AE
namespace Go.Proofs.YtgnpoaoekhplhaaGreatDoor.AE
open Go
variable {P : Program} {w : World} {σ : Sg} {tm : Tm} {a : Act} {h : Hp}

theorem qev_ia (c : Cx P σ tm h w a) {o : Oper} {t : TypeId} {x i : Operand} (ho : o.op = .indexAddr t x i) {y j : AO} (hy : cOpnd P x = some y) (hj : cOpnd P i = some j)
    {k : SK} (hk : SKOK P t k) {v : V} (hv : iaV k (y.ev tm) (j.ev tm) = some v) : QOK P σ w a o v := by
  cases hk with
  | str hu => simp only [iaV] at hv; cases hv
  | @sl e esz hu hs =>
    have hz := szOf_run (w := w) hs
    simp only [iaV] at hv
    split at hv
    · next id off len cap kk m e1 e2 =>
      revert hv
      cases hb : Nat.blt m len with
      | false => intro hv; cases hv
      | true =>
        intro hv; cases hv
        have hlt : m + 1 ≤ len := Nat.le_of_ble_eq_true hb
        have hx := opnd c hy e1
        have hi := opnd c hj e2
        simp only [conc, Option.some.injEq] at hi
        obtain ⟨pl, kc, hp, hxe, _⟩ := conc_sl_inv hx
        refine ⟨.pointer (some (pl.at (off + m * esz))), by simp only [conc, hp]; rfl, ?_⟩
        have h0 : (0 : Int) ≤ Int.ofNat m ∧ Int.ofNat m < (len : Int) := ⟨by simp, by show (m : Int) < _; omega⟩
        simp only [execOp, ho, hxe, ← hi]
        simp [Instr.indexAt, asIntOf, run_underlying hu, hz, pl_add]
        omega
    · cases hv
  | @ar n e esz hu hs =>
    have hz := szOf_run (w := w) hs
    simp only [iaV] at hv
    split at hv
    · next id off kk m e1 e2 =>
      revert hv
      cases hb : Nat.blt m n with
      | false => intro hv; cases hv
      | true =>
        intro hv; cases hv
        have hlt : m + 1 ≤ n := Nat.le_of_ble_eq_true hb
        have hx := opnd c hy e1
        have hi := opnd c hj e2
        simp only [conc, Option.some.injEq] at hi
        obtain ⟨pl, hp, hxe⟩ := conc_p_inv hx
        refine ⟨.pointer (some (pl.at (off + m * esz))), by simp only [conc, hp]; rfl, ?_⟩
        simp only [execOp, ho, hxe, ← hi]
        simp [Instr.indexAt, Instr.sureAddr, asIntOf, run_underlying hu, hz, pl_add]
        omega
    · cases hv

theorem opnds_one {l : Array Operand} {x : AO} (hl : cOpnds P l = some [x]) : ∃ y, l = #[y] ∧ cOpnd P y = some x := by
  unfold cOpnds at hl
  obtain ⟨l⟩ := l
  cases l with
  | nil => simp only [mapO] at hl; cases hl
  | cons y l =>
    simp only [mapO] at hl
    split at hl
    · next y' hy' =>
      split at hl
      · next ys hys =>
        cases hl
        cases l with
        | nil => exact ⟨y, rfl, hy'⟩
        | cons z l =>
          simp only [mapO] at hys
          split at hys
          · split at hys <;> cases hys
          · cases hys
      · cases hl
    · cases hl

theorem opnds_two {l : Array Operand} {x x' : AO} (hl : cOpnds P l = some [x, x']) : ∃ y y', l = #[y, y'] ∧ cOpnd P y = some x ∧ cOpnd P y' = some x' := by
  unfold cOpnds at hl
  obtain ⟨l⟩ := l
  cases l with
  | nil => simp only [mapO] at hl; cases hl
  | cons y l =>
    simp only [mapO] at hl
    split at hl
    · next z hz =>
      split at hl
      · next ys hys =>
        cases hl
        obtain ⟨y', e, hy'⟩ := opnds_one (P := P) (l := l.toArray) (x := x') hys
        have : l = [y'] := by simpa using congrArg Array.toList e
        subst this
        exact ⟨y, y', rfl, hz, hy'⟩
      · cases hl
    · cases hl

theorem qev_sound (c : Cx P σ tm h w a) {o : Oper} {ao : AOp} (hc : cOp P o = some ao) (hk : kindOf ao = 0) {v : V} (hv : qev ao tm h = some v) : QOK P σ w a o v := by
  have hc0 := hc
  unfold cOp at hc
  split at hc
  · -- move
    next x ho =>
    obtain ⟨y, hy, rfl⟩ := map_some hc
    exact qev_mov c (.inl ho) hy hv
  · next x ho =>
    obtain ⟨y, hy, rfl⟩ := map_some hc
    exact qev_mov c (.inr ho) hy hv
  · -- pick
    next x y z ho =>
    split at hc
    · next x' y' z' hx hy hz => cases hc; exact qev_pick c ho hx hy hz hv
    · cases hc
  · obtain ⟨y, hy, rfl⟩ := map_some hc; cases hk
  · split at hc
    · cases hc; cases hk
    · cases hc
  · -- build
    next t ps ho =>
    split at hc
    · next zs fs hz hu =>
      split at hc
      · next places hpl =>
        obtain ⟨qs, hq, rfl⟩ := map_some hc
        refine qev_build c ho hz hq (fun i z C hi hz1 hf => ?_) hv
        simp only [Program.built, hi, hu, hz1, hpl]
        simpa using hf
      · cases hc
    · next zs n e hz hu =>
      split at hc
      · next ie hie =>
        obtain ⟨qs, hq, rfl⟩ := map_some hc
        refine qev_build c ho hz hq (fun i z C hi hz1 hf => ?_) hv
        simp only [Program.built, hi, hu, hz1, hie]
        exact hf
      · cases hc
    · cases hc
  · -- a slice's literal
    split at hc
    · split at hc
      · split at hc
        · obtain ⟨qs, hq, rfl⟩ := map_some hc; cases hk
        · cases hc
      · cases hc
    · cases hc
  · -- load
    next t x ho =>
    split at hc
    · next n y hs hy =>
      cases hc
      simp only [qev] at hv
      cases hu : y.ev tm with
      | none => rw [hu] at hv; cases n <;> (simp only [ldV] at hv; cases hv)
      | some u =>
        rw [hu] at hv
        obtain ⟨z, z1, z2, _⟩ := ld_run c hs (opnd c hy hu) hv
        exact ⟨z, z1, by simp [execOp, ho, z2]⟩
    · cases hc
  · split at hc
    · cases hc; cases hk
    · cases hc
  · -- nilCheck
    next x ho =>
    obtain ⟨y, hy, rfl⟩ := map_some hc
    simp only [qev, nckV] at hv
    split at hv
    · next id off e =>
      cases hv
      have hx := opnd c hy e
      obtain ⟨pl, hp, hxe⟩ := conc_p_inv hx
      exact ⟨_, hx, by simp only [execOp, ho, hxe]; rfl⟩
    · cases hv
  · -- binOp
    next op t x y yt ho =>
    split at hc
    · next x' y' hx hy =>
      have hbin : ∀ (b' : V), binV op (x'.ev tm) (y'.ev tm) = some b' → QOK P σ w a o b' := by
        intro b' hb
        cases hu : x'.ev tm with
        | none =>
          rw [hu] at hb; unfold binV at hb
          cases hs : isShift op <;> rw [hs] at hb <;> cases hb
        | some u =>
          cases hu' : y'.ev tm with
          | none =>
            rw [hu, hu'] at hb; unfold binV at hb
            cases hs : isShift op <;> rw [hs] at hb
            · simp only [cond_false] at hb
              cases hb
            · simp only [cond_true] at hb
              cases hb
          | some u' =>
            rw [hu, hu'] at hb
            obtain ⟨z, z1, z2⟩ := binV_run (P := P) (w := w) t x y (opnd c hx hu) (opnd c hy hu') hb
            exact ⟨z, z1, by simp only [execOp, ho]; rw [Sem.run_bind]; simp only [Sem.run_bind] at z2; simp [Sem.run_bind, z2]⟩
      have heq : ∀ (e : EQ) (neg : Bool), op = (if neg then .neq else .eql) → eqOf P t = some e → (∀ k, P.underlying t ≠ some (.int k)) → P.underlying t ≠ some .string →
          (e = .ifc → isConstO x = true ∨ isConstO y = true) → ∀ b', eqVO neg e (x'.ev tm) (y'.ev tm) = some b' → QOK P σ w a o b' := by
        intro e neg hop he hni hns hcon b' hb
        unfold eqVO at hb
        split at hb
        · next u u' e1 e2 =>
          unfold eqO at hb
          split at hb
          · next r hr =>
            cases hb
            have hxx := opnd c hx e1
            have hyy := opnd c hy e2
            have h1 : e ≠ .int := by
              intro e0; subst e0
              unfold eqOf at he
              split at he
              · split at he
                · cases he
                · split at he <;> cases he
              · unfold eqOf1 at he
                split at he <;> first | (cases he; done) | skip
                · next k hk => exact hni _ hk
                · split at he <;> cases he
            have h2 : e ≠ .str := by
              intro e0; subst e0
              unfold eqOf at he
              split at he
              · split at he
                · cases he
                · split at he <;> cases he
              · unfold eqOf1 at he
                split at he <;> first | (cases he; done) | skip
                · next hk => exact hns hk
                · split at he <;> cases he
            have ho' := eq_other h1 h2 hxx hr
            have hg := eqGuard_run (w := w) he op x y hcon hxx hyy hr
            have hq := equal_run (w := w) he hxx hyy hr
            refine ⟨_, rfl, ?_⟩
            cases neg with
            | false =>
              simp only [Bool.false_eq_true, if_false] at hop
              subst hop
              simp [execOp, ho, hg, binOp_eql _ t ho', hq]
            | true =>
              simp only [if_true] at hop
              subst hop
              simp [execOp, ho, hg, binOp_neq _ t ho', hq]
          · cases hb
        · cases hb
      split at hc
      · cases hc; exact hbin v hv
      · cases hc; exact hbin v hv
      · next hni hns =>
        have hni' : ∀ k, P.underlying t ≠ some (.int k) := fun k hh => hni k hh
        have hns' : P.underlying t ≠ some .string := fun hh => hns hh
        split at hc
        · next he =>
          split at hc
          · next hcon => cases hc; exact heq _ false rfl he hni' hns' (fun _ => by simpa using hcon) v hv
          · cases hc
        · next he =>
          split at hc
          · next hcon => cases hc; exact heq _ true rfl he hni' hns' (fun _ => by simpa using hcon) v hv
          · cases hc
        · next e hne he =>
          cases hc
          exact heq _ false rfl he hni' hns' (fun e0 => (by subst e0; exact (hne rfl).elim)) v hv
        · next e hne he =>
          cases hc
          exact heq _ true rfl he hni' hns' (fun e0 => (by subst e0; exact (hne rfl).elim)) v hv
        · cases hc
    · cases hc
  · -- unOp
    next op t x ho =>
    obtain ⟨y, hy, rfl⟩ := map_some hc
    simp only [qev] at hv
    cases op <;> simp only [unV] at hv <;> try (cases hv; done)
    · split at hv
      · next k n e =>
        cases hv
        have hx := opnd c hy e
        simp only [conc, Option.some.injEq] at hx
        refine ⟨_, rfl, ?_⟩
        rw [wrapQ_eq]
        simp [execOp, ho, ← hx, Op.unary, Op.intArith]
        try rfl
      · cases hv
    · split at hv
      · next b e =>
        cases hv
        have hx := opnd c hy e
        simp only [conc, Option.some.injEq] at hx
        exact ⟨_, rfl, by simp [execOp, ho, ← hx, Op.unary]⟩
      · cases hv
  · -- convert
    next src dst x ho => exact qev_cv c ho hc0 hk hv
  · -- makeFunc
    next f fs cs ho =>
    split at hc
    · next a1 b1 h1 h2 =>
      cases hc
      simp only [qev, mkfV] at hv
      split at hv
      · next va vb e1 e2 =>
        cases hv
        have q1 := opnds c h1 e1
        have q2 := opnds c h2 e2
        refine ⟨.func (.func f) (fs.map a.eval) (cs.map a.eval), by simp only [conc, q1, q2], ?_⟩
        simp [execOp, ho, Instr.makeFunc]
      · cases hv
    · cases hc
  · -- makeSlice
    split at hc
    · split at hc
      · split at hc
        · cases hc; cases hk
        · cases hc
      · cases hc
    · cases hc
  · -- slice
    next t x lo hi mx ho =>
    split at hc
    · cases hc
    next hcond =>
    split at hc
    · next y lo' hi' mx' hy hlo hhi hmx =>
      have key : ∀ k, SKOK P t k → ao = .slc k y lo' hi' mx' → QOK P σ w a o v := by
        intro k hk' e
        subst e
        simp only [qev] at hv
        unfold slcVO at hv
        split at hv
        · next _ u l1 h1 m1 e1 e2 e3 e4 =>
          have x1 := opt_opnd c hmx e4
          have x2 := opt_opnd c hhi e3
          have x3 := opt_opnd c hlo e2
          have hm : m1 = none ∨ h1.isSome = true := by
            cases m1 with
            | none => exact .inl rfl
            | some m2 =>
              right
              cases h1 with
              | some _ => rfl
              | none =>
                exfalso
                obtain ⟨z, hz1, _⟩ := x1.1 m2 rfl
                have := x2.2 rfl
                cases mx with
                | none => simp at hz1
                | some q =>
                  cases hi with
                  | none => exact hcond rfl
                  | some q' => simp at this
          obtain ⟨z, z1, z2⟩ := slc_run c hk' (opnd c hy e1) x1 x2 x3 hm hv
          exact ⟨z, z1, by simp [execOp, ho, z2]⟩
        · cases hv
      split at hc
      · next hu => cases hc; exact key _ (.str hu) rfl
      · next e hu => obtain ⟨s, hs, rfl⟩ := map_some hc; exact key _ (.sl hu hs) rfl
      · next n e hu => obtain ⟨s, hs, rfl⟩ := map_some hc; exact key _ (.ar hu hs) rfl
      · cases hc
    · cases hc
  · -- fieldAddr
    next t x i ho =>
    split at hc
    · next fs y hu hy =>
      split at hc
      · next f hf =>
        split at hc
        · next n hn =>
          cases hc
          have hz := szOf_run (w := w) hn
          simp only [qev, faV] at hv
          split at hv
          · next id off e =>
            cases hv
            have hx := opnd c hy e
            obtain ⟨pl, hp, hxe⟩ := conc_p_inv hx
            refine ⟨.pointer (some (pl.at (off + f.offset))), by simp only [conc, hp]; rfl, ?_⟩
            simp [execOp, ho, hxe, Instr.fieldAt, run_underlying hu, hf, Instr.sureAddr, fieldPlace, hz, pl_add]
          · cases hv
        · cases hc
      · cases hc
    · cases hc
  · -- field
    next t x i ho =>
    split at hc
    · next fs y hu hy =>
      split at hc
      · next f hf =>
        split at hc
        · next n hn =>
          cases hc
          simp only [qev, fdV] at hv
          split at hv
          · next cs e =>
            have hx := opnd c hy e
            obtain ⟨xs, hxs, hxe⟩ := conc_ag_inv hx
            obtain ⟨z, z1, z2⟩ := part_run (w := w) hn hxs hv
            exact ⟨z, z1, by simp [execOp, ho, hxe, Instr.field, run_underlying hu, hf, asAgg, z2]⟩
          · cases hv
        · cases hc
      · cases hc
    · cases hc
  · -- indexAddr
    next t x i ho =>
    split at hc
    · next y j hy hj =>
      split at hc
      · next e hu => obtain ⟨s, hs, rfl⟩ := map_some hc; exact qev_ia c ho hy hj (.sl hu hs) hv
      · next n e hu => obtain ⟨s, hs, rfl⟩ := map_some hc; exact qev_ia c ho hy hj (.ar hu hs) hv
      · cases hc
    · cases hc
  · -- index
    next t x i ho =>
    split at hc
    · next y j hy hj =>
      split at hc
      · next hu =>
        cases hc
        simp only [qev, ixsV] at hv
        split at hv
        · next l k m e1 e2 =>
          unfold byteO at hv
          split at hv
          · next b hb =>
            cases hv
            have hx := opnd c hy e1
            have hi := opnd c hj e2
            simp only [conc, Option.some.injEq] at hx hi
            rw [nth_eq] at hb
            refine ⟨_, rfl, ?_⟩
            have hget : (⟨l.toArray⟩ : ByteArray)[m]? = some b := by
              show (if hm : m < (⟨l.toArray⟩ : ByteArray).size then some ((⟨l.toArray⟩ : ByteArray)[m]) else none) = _
              obtain ⟨hlt, hbe⟩ := List.getElem?_eq_some_iff.1 hb
              have hsz : (⟨l.toArray⟩ : ByteArray).size = l.length := by show l.toArray.size = _; simp
              rw [dif_pos (by rw [hsz]; exact hlt)]
              have : (⟨l.toArray⟩ : ByteArray)[m]'(by rw [hsz]; exact hlt) = l[m] := by
                show l.toArray[m] = _
                simp
              rw [this, hbe]
            simp [execOp, ho, ← hx, ← hi, Instr.index, asIntOf, run_underlying hu, hget]
          · cases hv
        · cases hv
      · next n e hu =>
        split at hc
        · next s sh hs hsh =>
          cases hc
          simp only [qev, ixaV] at hv
          split at hv
          · next cs k m e1 e2 =>
            revert hv
            cases hb : Nat.blt m n with
            | false => intro hv; cases hv
            | true =>
              intro hv
              simp only [cond_true] at hv
              have hlt : m + 1 ≤ n := Nat.le_of_ble_eq_true hb
              have hx := opnd c hy e1
              have hi := opnd c hj e2
              simp only [conc, Option.some.injEq] at hi
              obtain ⟨xs, hxs, hxe⟩ := conc_ag_inv hx
              obtain ⟨z, z1, z2⟩ := part_run (w := w) hsh hxs hv
              have z2' : (part e xs.toArray (m * s)).run P w = .ok z w := z2
              have hz := szOf_run (w := w) hs
              refine ⟨z, z1, ?_⟩
              have hlt' : m < n := by omega
              simp [execOp, ho, hxe, ← hi, Instr.index, asIntOf, run_underlying hu, hz, z2', hlt']
          · cases hv
        · cases hc
      · cases hc
    · cases hc
  · -- extract
    next x i ho =>
    obtain ⟨y, hy, rfl⟩ := map_some hc
    simp only [qev, exV] at hv
    split at hv
    · next l e =>
      have hx := opnd c hy e
      obtain ⟨xs, hxs, hxe⟩ := conc_tu_inv hx
      rw [nth_eq] at hv
      obtain ⟨z, z1, z2⟩ := concs_get hxs hv
      exact ⟨z, z1, by simp [execOp, ho, hxe, Instr.extract, z2]⟩
    · cases hv
  · -- calls
    next cl ho =>
    split at hc
    · cases hc
    next args hargs =>
    split at hc
    · cases hc; cases hk
    · obtain ⟨y, hy, rfl⟩ := map_some hc; cases hk
    · cases hc
    · -- len
      next hcal =>
      split at hc
      · next t x ht =>
        obtain ⟨y, hae, hy⟩ := opnds_one hargs
        have hrun : ∀ z, (Builtin.len_ cl.argTypes o.type #[a.eval y]).run P w = .ok z w → (execOp a.eval o).run P w = .ok (.value z) w := by
          intro z hz
          simp [execOp, ho, resolve, hcal, hae, invoke, builtin, hz]
        split at hc
        · next hu =>
          cases hc
          simp only [qev, lenV] at hv
          split at hv
          · next l _ e =>
            cases hv
            have hx := opnd c hy e
            simp only [conc, Option.some.injEq] at hx
            refine ⟨_, rfl, hrun _ ?_⟩
            have hsz : (⟨l.toArray⟩ : ByteArray).size = l.length := by show l.toArray.size = _; simp
            simp [Builtin.len_, ht, ← hx, run_underlying hu, goInt, hsz]
          · next e _ => cases e
          · next e _ => cases e
          · cases hv
        · next e hu =>
          cases hc
          simp only [qev, lenV] at hv
          split at hv
          · next e _ => cases e
          · next _ e =>
            cases hv
            have hx := opnd c hy e
            simp only [conc, Option.some.injEq] at hx
            refine ⟨_, rfl, hrun _ ?_⟩
            simp [Builtin.len_, ht, ← hx, run_underlying hu, goInt]
          · next id off n cap _ e =>
            cases hv
            have hx := opnd c hy e
            obtain ⟨pl, k, hp, hxe, _⟩ := conc_sl_inv hx
            refine ⟨_, rfl, hrun _ ?_⟩
            simp [Builtin.len_, ht, hxe, run_underlying hu, goInt]
          · cases hv
        · next n e hu =>
          cases hc
          simp only [qev, AO.ev] at hv
          cases hv
          refine ⟨_, rfl, hrun _ ?_⟩
          simp [Builtin.len_, ht, run_underlying hu, goInt]
        · cases hc
      · cases hc
    · -- append
      split at hc
      · split at hc
        · split at hc
          · split at hc
            · cases hc; cases hk
            · cases hc
          · cases hc
        · split at hc
          · split at hc
            · cases hc; cases hk
            · cases hc
          · cases hc
        · cases hc
      · cases hc
    · -- copy
      split at hc
      · split at hc
        · obtain ⟨s, hs, rfl⟩ := map_some hc; cases hk
        · cases hc
      · cases hc
    · -- clear
      split at hc
      · split at hc
        · split at hc
          · split at hc
            · cases hc; cases hk
            · cases hc
          · cases hc
        · cases hc
      · cases hc
    · -- max
      next hcal =>
      cases hc
      simp only [qev, mmO] at hv
      split at hv
      · next x1 l1 e =>
        have q := opnds c hargs e
        cases hm : (cl.args.map a.eval).toList with
        | nil => rw [hm] at q; simp only [concs] at q; split at q <;> cases q
        | cons x xs =>
          rw [hm] at q
          obtain ⟨x', xs', q1, q2, q3⟩ := concs_cons q
          cases q3
          obtain ⟨z, z1, z2⟩ := mm_run (P := P) (w := w) true x1 l1 v hv x xs q1 q2
          refine ⟨z, z1, ?_⟩
          have : (Builtin.max_ cl.argTypes o.type (cl.args.map a.eval)).run P w = .ok z w := by
            unfold Builtin.max_
            rw [hm]; exact z2
          simp [execOp, ho, resolve, hcal, invoke, builtin, this]
      · cases hv
    · -- min
      next hcal =>
      cases hc
      simp only [qev, mmO] at hv
      split at hv
      · next x1 l1 e =>
        have q := opnds c hargs e
        cases hm : (cl.args.map a.eval).toList with
        | nil => rw [hm] at q; simp only [concs] at q; split at q <;> cases q
        | cons x xs =>
          rw [hm] at q
          obtain ⟨x', xs', q1, q2, q3⟩ := concs_cons q
          cases q3
          obtain ⟨z, z1, z2⟩ := mm_run (P := P) (w := w) false x1 l1 v hv x xs q1 q2
          refine ⟨z, z1, ?_⟩
          have : (Builtin.min_ cl.argTypes o.type (cl.args.map a.eval)).run P w = .ok z w := by
            unfold Builtin.min_
            rw [hm]; exact z2
          simp [execOp, ho, resolve, hcal, invoke, builtin, this]
      · cases hv
    · -- unsafe.SliceData
      next hcal =>
      split at hc
      · next x =>
        cases hc
        obtain ⟨y, hae, hy⟩ := opnds_one hargs
        have hrun : ∀ z, (Builtin.unsafeSliceData_ cl.argTypes o.type #[a.eval y]).run P w = .ok z w → (execOp a.eval o).run P w = .ok (.value z) w := by
          intro z hz
          simp [execOp, ho, resolve, hcal, hae, invoke, builtin, hz]
        simp only [qev, usdV] at hv
        split at hv
        · next e =>
          cases hv
          have hx := opnd c hy e
          simp only [conc, Option.some.injEq] at hx
          refine ⟨_, rfl, hrun _ ?_⟩
          rw [← hx]; exact Lib.run_unsafeSliceData_nil w _ _ _ _
        · next _ id off len n e =>
          cases hv
          have hx := opnd c hy e
          obtain ⟨pl, k, hp, hxe, hk'⟩ := conc_sl_inv hx
          have hk0 : k = n + 1 := hk'
          refine ⟨.pointer (some (pl.at off)), by simp only [conc, hp], hrun _ ?_⟩
          rw [hxe]; exact Lib.run_unsafeSliceData_row w _ _ _ _ _ (by omega)
        · next _ id off len e =>
          unfold usdO at hv
          split at hv
          · next cs ty ee ro sb fz hg =>
            revert hv
            cases hb : Nat.ble 1 ((cs.length - off) / ee) with
            | false => intro hv; cases hv
            | true =>
              intro hv; cases hv
              have h1 := Nat.le_of_ble_eq_true hb
              have hx := opnd c hy e
              obtain ⟨pl, k, hp, hxe, hk'⟩ := conc_sl_inv hx
              obtain ⟨pl', hp', C, lo0, hi0, hC, hcs, _, _, hpos, hpe, hcap, hlen⟩ := c.wr.blk _ _ hg
              rw [hp] at hp'; cases hp'
              simp only at hk'
              have hk0 : k ≠ 0 := by
                rw [hk', hpe]
                have h2 := (Nat.le_div_iff_mul_le hpos).1 h1
                have h3 : off / ee < pl.ecap := by
                  rw [Nat.div_lt_iff_lt_mul hpos]; omega
                omega
              refine ⟨.pointer (some (pl.at off)), by simp only [conc, hp], hrun _ ?_⟩
              rw [hxe]; exact Lib.run_unsafeSliceData_row w _ _ _ _ _ hk0
          · cases hv
        · cases hv
      · cases hc
    · -- unsafe.String
      split at hc
      · split at hc
        · split at hc
          · cases hc; cases hk
          · cases hc
        · cases hc
      · cases hc
    · cases hc
  · cases hc

end Go.Proofs.YtgnpoaoekhplhaaGreatDoor.AE
