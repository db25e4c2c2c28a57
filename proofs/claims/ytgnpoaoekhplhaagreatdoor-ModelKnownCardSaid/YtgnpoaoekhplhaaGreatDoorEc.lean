/- A part of the proof that croupierlaw11.ModelKnown returns true (its last text says so). No condition of its own. -/
import Derived.Test.YtgnpoaoekhplhaaGreatDoorEb
import Derived.Laws.IdiomCopy
import Derived.Laws.Append
import Derived.Laws.MakeOwn
import Derived.RangeFuncLeaves
set_option linter.unusedVariables false
set_option linter.unusedSimpArgs false
set_option linter.unusedSectionVars false
namespace Go.Proofs.YtgnpoaoekhplhaaGreatDoor.AE
open Go
variable {P : Program} {w w' : World} {σ σ' : Sg} {tm : Tm} {a : Act} {h : Hp}

def Sg.up (σ : Sg) (id : Nat) (pl : Pl) : Sg := fun j => if j = id then some pl else σ j
theorem Sg.up_same (σ : Sg) (id : Nat) (pl : Pl) : σ.up id pl id = some pl := by simp [Sg.up]
theorem Sg.up_ne (σ : Sg) {id j : Nat} (pl : Pl) (h : j ≠ id) : σ.up id pl j = σ j := by simp [Sg.up, h]
theorem Sg.le_up {σ : Sg} {id : Nat} (pl : Pl) (h : σ id = none) : σ.le (σ.up id pl) := by
  intro j p hj
  have : j ≠ id := fun e => by rw [e, h] at hj; cases hj
  rw [Sg.up_ne _ _ this]; exact hj

theorem BlkOK.mono {pl : Pl} {o : O} (hl : σ.le σ') (hh : w'.heap[pl.blk]? = w.heap[pl.blk]?) (hb : BlkOK P σ w pl o) : BlkOK P σ' w' pl o := by
  cases o with
  | c cs ty op ro sb fz =>
    obtain ⟨C, lo, hi, h1, h2, h3⟩ := hb
    exact ⟨C, lo, hi, hh.trans h1, fun i v hv => let ⟨x, a, b⟩ := h2 i v hv; ⟨x, conc_mono hl _ _ a, b⟩, h3⟩
  | l st pend tm ps a b df =>
    obtain ⟨r, nt, pd, h1, h2, h3, h4, h5, h6, h7, h8, h9, h10, h11⟩ := hb
    exact ⟨r, nt, pd, hh.trans h1, h2, h3, h4.mono hl, h5, h6, h7, h8, h9, hl _ _ h10, h11⟩
  | d => exact hh.trans hb

theorem BlkOK.lt {pl : Pl} {o : O} (hb : BlkOK P σ w pl o) : pl.blk < w.heap.size := by
  have : ∃ x, w.heap[pl.blk]? = some x := by
    cases o with
    | c cs ty op ro sb fz => obtain ⟨C, lo, hi, h1, _⟩ := hb; exact ⟨_, h1⟩
    | l st pend tm ps a b df => obtain ⟨r, nt, pd, h1, _⟩ := hb; exact ⟨_, h1⟩
    | d => exact ⟨_, hb⟩
  obtain ⟨x, hx⟩ := this
  exact (Array.getElem?_eq_some_iff.1 hx).1

/-- Only the count of draws has gone on. -/
theorem WR.heap (hw : WR P σ h w) (hh : w'.heap = w.heap) : WR P σ h w' where
  blk := fun id o ho => let ⟨pl, a, b⟩ := hw.blk id o ho; ⟨pl, a, b.mono (Sg.le_refl _) (by rw [hh])⟩
  inj := hw.inj
  dom := hw.dom
  glob := hw.glob

theorem Hp.get_add (h : Hp) (o : O) (id : Nat) : (h.add o).get id = if id = h.nx then some o else h.get id := by
  unfold Hp.add Hp.get
  exact get_set _ _ _ _
theorem Hp.get_set (h : Hp) (id j : Nat) (o : O) : (h.set id o).get j = if j = id then some o else h.get j := by
  unfold Hp.set Hp.get
  exact AE.get_set _ _ _ _
theorem Hp.get_kill (h : Hp) (id j : Nat) : (h.kill id).get j = if j = id then none else h.get j := by
  unfold Hp.kill Hp.get
  exact AE.get_set _ _ _ _
theorem Hp.nx_add (h : Hp) (o : O) : (h.add o).nx = h.nx + 1 := rfl
theorem Hp.nx_set (h : Hp) (id : Nat) (o : O) : (h.set id o).nx = h.nx := rfl
theorem Hp.nx_kill (h : Hp) (id : Nat) : (h.kill id).nx = h.nx := rfl

/-- The streams and the tape. -/
structure Calm (w w' : World) : Prop where
  tape : w'.tape = w.tape
  os : w'.os = w.os
  output : w'.output = w.output

/-- A new name for a new block, or for a block whose elder name has been struck. -/
theorem WR.add (hw : WR P σ h w) {o : O} {pl : Pl} (hfree : ∀ id o' pl', h.get id = some o' → σ id = some pl' → pl'.blk ≠ pl.blk)
    (hkeep : ∀ b, b ≠ pl.blk → b < w.heap.size → w'.heap[b]? = w.heap[b]?)
    (hok : BlkOK P (σ.up h.nx pl) w' pl o) : WR P (σ.up h.nx pl) (h.add o) w' := by
  have hle := Sg.le_up pl (hw.dom h.nx (Nat.le_refl _))
  refine ⟨fun id o' ho' => ?_, fun id id' o1 o2 p1 p2 h1 h2 hr e1 e2 eb => ?_, fun id hid => ?_, fun g hgl => hle _ _ (hw.glob g hgl)⟩
  · rw [Hp.get_add] at ho'
    split at ho'
    · next e => cases ho'; subst e; exact ⟨pl, Sg.up_same _ _ _, hok⟩
    · next e =>
      obtain ⟨p', a1, a2⟩ := hw.blk id o' ho'
      refine ⟨p', hle _ _ a1, a2.mono hle (hkeep _ (hfree _ _ _ ho' a1) a2.lt)⟩
  · rw [Hp.get_add] at h1 h2
    split at h1
    · next e =>
      subst e
      rw [Sg.up_same] at e1; cases e1
      split at h2
      · next e' => exact e'.symm
      · next e' =>
        obtain ⟨p', a1, a2⟩ := hw.blk _ _ h2
        rw [hle _ _ a1] at e2; cases e2
        exact absurd eb.symm (hfree _ _ _ h2 a1)
    · next e =>
      obtain ⟨p1', a1, a2⟩ := hw.blk _ _ h1
      rw [hle _ _ a1] at e1; cases e1
      split at h2
      · next e' =>
        subst e'
        rw [Sg.up_same] at e2; cases e2
        exact absurd eb (hfree _ _ _ h1 a1)
      · next e' =>
        obtain ⟨p2', b1, b2⟩ := hw.blk _ _ h2
        rw [hle _ _ b1] at e2; cases e2
        exact hw.inj _ _ _ _ _ _ h1 h2 hr a1 b1 eb
  · rw [Hp.nx_add] at hid
    rw [Sg.up_ne _ _ (by omega)]
    exact hw.dom _ (by omega)

theorem Wr_add {o : O} {pl : Pl} {b : Nat} (hw : WR P σ h w) (hb : Wr (σ.up h.nx pl) (h.add o) b) : b = pl.blk ∨ Wr σ h b := by
  obtain ⟨id, o', p', h1, h2, h3, h4⟩ := hb
  rw [Hp.get_add] at h1
  split at h1
  · next e => cases h1; subst e; rw [Sg.up_same] at h3; cases h3; exact .inl h4.symm
  · next e =>
    obtain ⟨p'', a1, a2⟩ := hw.blk _ _ h1
    rw [Sg.le_up pl (hw.dom _ (Nat.le_refl _)) _ _ a1] at h3; cases h3
    exact .inr ⟨id, o', _, h1, h2, a1, h4⟩

theorem Nm_add {o : O} {pl : Pl} {b : Nat} (hw : WR P σ h w) (hb : Nm (σ.up h.nx pl) (h.add o) b) : b = pl.blk ∨ Nm σ h b := by
  obtain ⟨id, o', p', h1, h3, h4⟩ := hb
  rw [Hp.get_add] at h1
  split at h1
  · next e => cases h1; subst e; rw [Sg.up_same] at h3; cases h3; exact .inl h4.symm
  · next e =>
    obtain ⟨p'', a1, a2⟩ := hw.blk _ _ h1
    rw [Sg.le_up pl (hw.dom _ (Nat.le_refl _)) _ _ a1] at h3; cases h3
    exact .inr ⟨id, o', _, h1, a1, h4⟩

/-- A block laid by the model, named by the evaluator. -/
theorem WR.alloc (hw : WR P σ h w) {o : O} {obj : Obj} {pl : Pl} (hpl : pl.blk = w.heap.size) (hh : w'.heap = w.heap.push obj) (hc : Calm w w')
    (hok : BlkOK P (σ.up h.nx pl) w' pl o) : WR P (σ.up h.nx pl) (h.add o) w' ∧ Ext σ h w (σ.up h.nx pl) (h.add o) w' := by
  have hlt : ∀ id o' pl', h.get id = some o' → σ id = some pl' → pl'.blk < w.heap.size := by
    intro id o' pl' h1 h2
    obtain ⟨p, a1, a2⟩ := hw.blk _ _ h1
    rw [h2] at a1; cases a1; exact a2.lt
  refine ⟨hw.add (fun id o' pl' h1 h2 e => by have := hlt _ _ _ h1 h2; omega) (fun b _ hb => ?_) hok, ⟨Sg.le_up pl (hw.dom _ (Nat.le_refl _)), ?_, fun b hb _ => ?_, fun b hb hwr => ?_, fun b hb hwr => ?_, Nat.le_succ _, fun id hid => Sg.up_ne _ _ (by omega), hc.tape, hc.os, hc.output⟩⟩
  · rw [hh, Array.getElem?_push_lt hb, Array.getElem?_eq_getElem hb]
  · rw [hh]; simp
  · rw [hh, Array.getElem?_push_lt hb, Array.getElem?_eq_getElem hb]
  · rcases Wr_add hw hwr with e | e
    · omega
    · exact e
  · rcases Nm_add hw hwr with e | e
    · omega
    · exact e

/-- A block is written. -/
theorem WR.put (hw : WR P σ h w) {id : Nat} {o o' : O} {pl : Pl} (ho : h.get id = some o) (hp : σ id = some pl) (hro : o.ro = false)
    (hkeep : ∀ b, b ≠ pl.blk → w'.heap[b]? = w.heap[b]?) (hsz : w'.heap.size = w.heap.size) (hc : Calm w w')
    (hok : BlkOK P σ w' pl o') : WR P σ (h.set id o') w' ∧ Ext σ h w σ (h.set id o') w' := by
  have hne : ∀ j oj pj, j ≠ id → h.get j = some oj → σ j = some pj → pj.blk ≠ pl.blk := fun j oj pj hj h1 h2 e => hj (hw.inj _ _ _ _ _ _ ho h1 hro hp h2 e.symm).symm
  refine ⟨⟨fun j oj hj => ?_, fun j j' o1 o2 p1 p2 h1 h2 hr e1 e2 eb => ?_, hw.dom, hw.glob⟩, ⟨Sg.le_refl _, by omega, fun b hb hnw => ?_, fun b hb hwr => ?_, fun b hb hwr => ?_, Nat.le_refl _, fun _ _ => rfl, hc.tape, hc.os, hc.output⟩⟩
  · rw [Hp.get_set] at hj
    split at hj
    · next e => cases hj; subst e; exact ⟨pl, hp, hok⟩
    · next e =>
      obtain ⟨p', a1, a2⟩ := hw.blk _ _ hj
      exact ⟨p', a1, a2.mono (Sg.le_refl _) (hkeep _ (hne _ _ _ e hj a1))⟩
  · have hx : ∀ j oj, (h.set id o').get j = some oj → ∃ ok, h.get j = some ok ∧ (oj.ro = false → ok.ro = false) := by
      intro j oj hj
      rw [Hp.get_set] at hj
      split at hj
      · next e => subst e; exact ⟨_, ho, fun _ => hro⟩
      · exact ⟨_, hj, fun e => e⟩
    obtain ⟨q1, g1, r1⟩ := hx _ _ h1
    obtain ⟨q2, g2, _⟩ := hx _ _ h2
    exact hw.inj _ _ _ _ _ _ g1 g2 (r1 hr) e1 e2 eb
  · refine hkeep b (fun e => hnw ?_)
    exact ⟨id, o, pl, ho, hro, hp, e.symm⟩
  · obtain ⟨j, oj, pj, h1, h2, h3, h4⟩ := hwr
    rw [Hp.get_set] at h1
    split at h1
    · next e => subst e; rw [hp] at h3; cases h3; exact ⟨_, o, pl, ho, hro, hp, h4⟩
    · exact ⟨j, oj, pj, h1, h2, h3, h4⟩
  · obtain ⟨j, oj, pj, h1, h3, h4⟩ := hwr
    rw [Hp.get_set] at h1
    split at h1
    · next e => subst e; rw [hp] at h3; cases h3; exact ⟨_, o, pl, ho, hp, h4⟩
    · exact ⟨j, oj, pj, h1, h3, h4⟩

/-- A name is struck. -/
theorem WR.kill (hw : WR P σ h w) (id : Nat) : WR P σ (h.kill id) w ∧ Ext σ h w σ (h.kill id) w := by
  have hx : ∀ j oj, (h.kill id).get j = some oj → h.get j = some oj := by
    intro j oj hj
    rw [Hp.get_kill] at hj
    split at hj
    · cases hj
    · exact hj
  refine ⟨⟨fun j oj hj => hw.blk _ _ (hx _ _ hj), fun j j' o1 o2 p1 p2 h1 h2 hr => hw.inj _ _ _ _ _ _ (hx _ _ h1) (hx _ _ h2) hr, hw.dom, hw.glob⟩,
    ⟨Sg.le_refl _, Nat.le_refl _, fun _ _ _ => rfl, fun b hb hwr => ?_, fun b hb hwr => ?_, Nat.le_refl _, fun _ _ => rfl, rfl, rfl, rfl⟩⟩
  · obtain ⟨j, oj, pj, h1, h2, h3, h4⟩ := hwr
    exact ⟨j, oj, pj, hx _ _ h1, h2, h3, h4⟩
  · obtain ⟨j, oj, pj, h1, h3, h4⟩ := hwr
    exact ⟨j, oj, pj, hx _ _ h1, h3, h4⟩

/-! ### Writing cells -/
theorem setCells_heap (b : Nat) : ∀ (vs : List Value) (o : Nat) (w : World) (C : Array Value) (ty : TypeId) (fr : Nat × Nat), w.heap[b]? = some (.cells C ty fr) → o + vs.length ≤ C.size →
    ∃ C', (w.setCells b o vs).heap[b]? = some (.cells C' ty fr) ∧ C'.size = C.size ∧ ∀ i : Nat, C'[i]? = if o ≤ i ∧ i < o + vs.length then vs[i - o]? else C[i]?
  | [], o, w, C, ty, fr, hb, _ => ⟨C, hb, rfl, fun i => by rw [if_neg (by simp)]⟩
  | v :: r, o, w, C, ty, fr, hb, hl => by
    have hlen : (v :: r).length = r.length + 1 := rfl
    have h1 : (w.setCell ⟨b, o, none⟩ v).heap[b]? = some (.cells (C.setIfInBounds o v) ty fr) := by
      simp [World.setCell, Array.getElem?_modify, hb]
    obtain ⟨C', e1, e2, e3⟩ := setCells_heap b r (o + 1) _ _ ty fr h1 (by rw [Array.size_setIfInBounds]; omega)
    refine ⟨C', e1, by rw [e2, Array.size_setIfInBounds], fun i => ?_⟩
    rw [e3]
    by_cases hi : i = o
    · subst hi
      rw [if_neg (by omega), if_pos (by omega), Nat.sub_self, Array.getElem?_setIfInBounds_self, if_pos (by omega)]; rfl
    · rw [Array.getElem?_setIfInBounds_ne (fun e => hi e.symm)]
      by_cases hr : o + 1 ≤ i ∧ i < o + 1 + r.length
      · rw [if_pos hr, if_pos (by omega)]
        have : i - o = (i - (o + 1)) + 1 := by omega
        rw [this]; simp
      · rw [if_neg hr, if_neg (by omega)]

theorem setCells_other (b : Nat) : ∀ (vs : List Value) (o : Nat) (w : World) (b' : Nat), b' ≠ b → (w.setCells b o vs).heap[b']? = w.heap[b']?
  | [], _, _, _, _ => rfl
  | v :: r, o, w, b', h => by
    rw [World.setCells, setCells_other b r (o + 1) _ b' h]
    simp only [World.setCell, Array.getElem?_modify]
    rw [if_neg (fun e => h e.symm)]

theorem setCells_size (b : Nat) : ∀ (vs : List Value) (o : Nat) (w : World), (w.setCells b o vs).heap.size = w.heap.size
  | [], _, _ => rfl
  | v :: r, o, w => by rw [World.setCells, setCells_size b r (o + 1)]; simp [World.setCell]

theorem setCells_calm (b : Nat) : ∀ (vs : List Value) (o : Nat) (w : World), Calm w (w.setCells b o vs)
  | [], _, _ => ⟨rfl, rfl, rfl⟩
  | v :: r, o, w => by
    rw [World.setCells]
    have := setCells_calm b r (o + 1) (w.setCell ⟨b, o, none⟩ v)
    exact ⟨this.tape, this.os, this.output⟩

end Go.Proofs.YtgnpoaoekhplhaaGreatDoor.AE
namespace Go.Proofs.YtgnpoaoekhplhaaGreatDoor.AE
open Go
variable {P : Program} {w w' : World} {σ σ' : Sg} {tm : Tm} {a : Act} {h : Hp}

theorem rep_length {α : Type} (l : List α) : ∀ n, (rep n l).length = n * l.length
  | 0 => by simp [rep]
  | n + 1 => by simp [rep, rep_length l n, Nat.add_mul]; omega

theorem rep_get {α : Type} (l : List α) : ∀ (n i : Nat), (rep n l)[i]? = if i < n * l.length then l[i % l.length]? else none
  | 0, i => by simp [rep]
  | n + 1, i => by
    simp only [rep]
    by_cases hi : i < l.length
    · rw [List.getElem?_append_left hi, Nat.mod_eq_of_lt hi, if_pos]
      rw [Nat.add_mul]; omega
    · rw [List.getElem?_append_right (by omega), rep_get l n]
      have e : (n + 1) * l.length = n * l.length + l.length := by rw [Nat.add_mul]; omega
      have hm : (i - l.length) % l.length = i % l.length := by
        rw [← Nat.mod_eq_sub_mod (by omega)]
      rw [hm]
      by_cases hj : i < (n + 1) * l.length
      · rw [if_pos (by omega), if_pos hj]
      · rw [if_neg (by omega), if_neg hj]

theorem concs_rep {z : List V} {Z : List Value} (hz : concs σ z = some Z) : ∀ n, concs σ (rep n z) = some (rep n Z)
  | 0 => rfl
  | n + 1 => concs_append hz (concs_rep hz n)

theorem madeCells_rep (Z : Array Value) (n : Nat) : (madeCells Z (n * Z.size)).toList = rep n Z.toList := by
  apply List.ext_getElem?
  intro i
  rw [rep_get]
  simp only [madeCells, Array.toList_map, Array.toList_range, Array.length_toList]
  rw [List.getElem?_map]
  by_cases hi : i < n * Z.size
  · have hpos : 0 < Z.size := by
      rcases Nat.eq_zero_or_pos Z.size with e | e
      · rw [e] at hi; omega
      · exact e
    have hm := Nat.mod_lt i hpos
    rw [List.getElem?_range hi, if_pos hi]
    simp [hm, getElem!_pos]
  · rw [List.getElem?_eq_none (by simpa using hi), if_neg (by simpa using hi)]; rfl

theorem cZero_len {t : TypeId} {z : List V} (hz : cZero P t = some z) {i : TypeInfo} (hi : P.info? t = some i) : ∃ v, i.zero = some v ∧ concs σ z = some v.cells.toList := by
  obtain ⟨i', v, h1, h2, h3⟩ := cZero_spec (σ := σ) hz
  rw [hi] at h1; cases h1
  exact ⟨v, h2, h3⟩

theorem szOf_info {t : TypeId} {n : Nat} (hs : szOf P t = some n) : ∃ i, P.info? t = some i ∧ i.size = n := by
  unfold szOf at hs
  split at hs
  · next i hi => cases hs; exact ⟨i, hi, rfl⟩
  · cases hs

/-- What a new block's operation comes to. -/
structure AOK (P : Program) (σ : Sg) (w : World) (a : Act) (o : Oper) (ob : O) (mk : Nat → V) : Prop where
  out : ∃ (C : Array Value) (ty : TypeId) (cs : List V) (x : Value), ob = .c cs ty none false false 0 ∧ concs σ cs = some C.toList ∧
    (execOp a.eval o).run P w = .ok (.value x) (w.alloc (.cells C ty)) ∧ ∀ (σ' : Sg) (id : Nat), σ' id = some ⟨w.heap.size, 0, 0, 1⟩ → conc σ' (mk id) = some x

theorem aev_sound (c : Cx P σ tm h w a) {o : Oper} {ao : AOp} (hc : cOp P o = some ao) {ob : O} {mk : Nat → V} (hv : aev ao tm = some (ob, mk)) : AOK P σ w a o ob mk := by
  unfold cOp at hc
  split at hc
  case h_4 =>   -- alloc
    next e ho =>
    obtain ⟨zs, hz, rfl⟩ := map_some hc
    simp only [aev] at hv
    cases hv
    obtain ⟨i, z, hi, hz1, hz2⟩ := cZero_spec (σ := σ) hz
    refine ⟨z.cells, e, zs, .pointer (some ⟨w.heap.size, 0, none⟩), rfl, hz2, ?_, fun σ' id hid => by simp only [conc, hid]; rfl⟩
    simp [execOp, ho, Instr.alloc, zeroValue, typeInfo, hi, hz1, newVar, newRow]
  case h_5 =>   -- box
    next e x ho =>
    split at hc
    · next n y hn hy =>
      cases hc
      simp only [aev, boxV] at hv
      split at hv
      · next v hv' =>
        revert hv
        cases hb : Nat.beq v.cells.length n with
        | false => intro hv; cases hv
        | true =>
          intro hv; cases hv
          have hx := opnd c hy hv'
          refine ⟨(a.eval x).cells, e, v.cells, .pointer (some ⟨w.heap.size, 0, none⟩), rfl, conc_cells hx, ?_, fun σ' id hid => by simp only [conc, hid]; rfl⟩
          simp [execOp, ho, Instr.box, newVar, newRow]
      · cases hv
    · cases hc
  case h_7 =>   -- a slice's literal
    next t len ps ho =>
    split at hc
    · next e hu =>
      split at hc
      · next s z hs hz =>
        split at hc
        · next hcond =>
          obtain ⟨qs, hq, rfl⟩ := map_some hc
          simp only [aev, bslV] at hv
          split at hv
          · next cs hcs =>
            cases hv
            unfold fillO at hcs
            split at hcs
            · next vs hvs =>
              obtain ⟨i, hi, hsi⟩ := szOf_info hs
              obtain ⟨v, hv1, hv2⟩ := cZero_len (σ := σ) hz hi
              have hzl : v.cells.size = s := by
                have := concs_length hv2
                simp at this; omega
              have hbase := concs_rep hv2 len
              obtain ⟨C', f1, f2⟩ := fill_some c ps.toList qs vs _ cs _ hq hvs hcs hbase
              refine ⟨C'.toArray, e, cs, .slice (some ⟨w.heap.size, 0, none⟩) len len, rfl, by simpa using f2, ?_, fun σ' id hid => by simp only [conc, hid]; rfl⟩
              have hle : ¬ (16777216 < len * s) := by omega
              have hsz := szOf_run (w := w) hs
              have hfill : Instr.fill (fun i => some (i * s, s)) (madeCells v.cells (len * s)) (ps.map fun p => (p.1, a.eval p.2)).toList = some C'.toArray := by
                have e1 : madeCells v.cells (len * s) = (rep len v.cells.toList).toArray := by
                  apply Array.toList_inj.1
                  rw [← hzl, madeCells_rep]
                rw [e1, Array.toList_map]; exact f1
              by_cases h0 : len * s = 0
              · have hm0 : madeCells v.cells 0 = #[] := by simp [madeCells, Array.range_zero']
                rw [h0, hm0] at hfill
                simp [execOp, ho, Instr.buildSlice, run_underlying hu, hsz, h0, Array.range_zero', newRow]
                have : (Array.map (fun p : Nat × Operand => (p.1, a.eval p.2)) ps).toList = List.map (fun p : Nat × Operand => (p.1, a.eval p.2)) ps.toList := Array.toList_map ..
                rw [this] at hfill
                simp [hfill]
              · simp [execOp, ho, Instr.buildSlice, run_underlying hu, hsz, hle, h0, zeroValue, typeInfo, hi, hv1, newRow]
                have e2 : (Array.map (fun x => v.cells[x % v.cells.size]!) (Array.range (len * s))) = madeCells v.cells (len * s) := rfl
                have : (Array.map (fun p : Nat × Operand => (p.1, a.eval p.2)) ps).toList = List.map (fun p : Nat × Operand => (p.1, a.eval p.2)) ps.toList := Array.toList_map ..
                rw [this] at hfill
                rw [e2, hfill]
                simp
            · cases hcs
          · cases hv
        · cases hc
      · cases hc
    · cases hc
  case h_15 =>   -- make
    next t l k ho =>
    split at hc
    · next e l' k' hu hl hk' =>
      split at hc
      · next i z hi hz =>
        split at hc
        · next hzl =>
          cases hc
          simp only [aev, mksV] at hv
          split at hv
          · next k1 m1 k2 m2 e1 e2 =>
            revert hv
            cases hb : (Nat.ble m1 m2 && Nat.ble (m2 * i.bytes) 1099511627776 && Nat.ble m2 1099511627776) with
            | false => intro hv; cases hv
            | true =>
              intro hv; cases hv
              rw [Bool.and_eq_true, Bool.and_eq_true] at hb
              have b1 := Nat.le_of_ble_eq_true hb.1.1
              have b2 := Nat.le_of_ble_eq_true hb.1.2
              have b3 := Nat.le_of_ble_eq_true hb.2
              have x1 := opnd c hl e1
              have x2 := opnd c hk' e2
              simp only [conc, Option.some.injEq] at x1 x2
              obtain ⟨v, hv1, hv2⟩ := cZero_len (σ := σ) hz hi
              have hvl : v.cells.size = i.size := by
                have := concs_length hv2
                simp at this; omega
              have hrun := run_make (P := P) w t e i v hu hi hv1 k1 k2 (Int.ofNat m1) (Int.ofNat m2) (by simp) (by simpa using b1)
                (by show (i.bytes : Int) * (m2 : Int) ≤ _
                    have : ((m2 * i.bytes : Nat) : Int) ≤ 1099511627776 := by omega
                    rw [Int.natCast_mul, Int.mul_comm] at this
                    omega) (by show (m2 : Int) ≤ _; omega)
              refine ⟨madeCells v.cells (m2 * i.size), e, rep m2 z, .slice (some ⟨w.heap.size, 0, none⟩) m1 m2, rfl, ?_, ?_, fun σ' id hid => by simp only [conc, hid]; rfl⟩
              · rw [← hvl, madeCells_rep]; exact concs_rep hv2 m2
              · simp only [execOp, ho, ← x1, ← x2]
                simp only [Int.ofNat_eq_natCast, Int.toNat_natCast] at hrun
                simp [hrun]
          · cases hv
        · cases hc
      · cases hc
    · cases hc
  all_goals
    exfalso
    repeat' (split at hc)
    all_goals first
      | (cases hc; done)
      | (cases hc; have hv' : (none : Option (O × (Nat → V))) = some (ob, mk) := hv; cases hv'; done)
      | (obtain ⟨_, _, e⟩ := map_some hc; cases e; have hv' : (none : Option (O × (Nat → V))) = some (ob, mk) := hv; cases hv'; done)

end Go.Proofs.YtgnpoaoekhplhaaGreatDoor.AE
namespace Go.Proofs.YtgnpoaoekhplhaaGreatDoor.AE
open Go
variable {P : Program} {w w' : World} {σ σ' : Sg} {tm : Tm} {a : Act} {h h' : Hp}

theorem oneCell_of {v : V} {x : Value} (hn : v.isNum = true) (hx : conc σ v = some x) : x.oneCell' = true := by
  cases v <;> first
    | (cases hn; done)
    | (simp only [conc] at hx; cases hx; rfl)
    | (obtain ⟨_, _, rfl⟩ := conc_p_inv hx; rfl)
    | (obtain ⟨_, _, _, rfl, _⟩ := conc_sl_inv hx; rfl)
    | (obtain ⟨_, _, _, _, rfl⟩ := conc_fn_inv hx; rfl)
    | (obtain ⟨_, _, rfl⟩ := conc_fy_inv hx; rfl)

theorem oneCells_of : ∀ {vs : List V} {xs : List Value}, allNum vs = true → concs σ vs = some xs → ∀ x ∈ xs, x.oneCell' = true
  | [], xs, _, hx, x, hm => by simp only [concs] at hx; cases hx; cases hm
  | v :: vs, xs, hn, hx, x, hm => by
    obtain ⟨y, ys, h1, h2, rfl⟩ := concs_cons hx
    simp only [allNum, Bool.and_eq_true] at hn
    rcases List.mem_cons.1 hm with e | e
    · subst e; exact oneCell_of hn.1 h1
    · exact oneCells_of hn.2 h2 x e

/-- Cells that are known, or at least there, are written. -/
theorem store_run {pl : Pl} {C : Array Value} {ty : TypeId} {lo hi : Nat} (hC : w.heap[pl.blk]? = some (.cells C ty (lo, hi))) {off : Nat} {xs : List Value}
    (hsz : pl.base + off + xs.length ≤ C.size) (hfr : ∀ j, pl.base + off ≤ j → j < C.size → ¬ (lo ≤ j ∧ j < hi)) (h1 : ∀ x ∈ xs, x.oneCell' = true) :
    (storeCells (pl.at off) xs).run P w = .ok () (w.setCells pl.blk (pl.base + off) xs) := by
  refine run_storeCells_cells pl.blk (pl.base + off) xs 0 w (fun j hj => ?_) (fun j hj => ?_) h1
  · have : pl.base + off + j < C.size := by omega
    simp [World.cell?, hC, this]
  · have hf := hfr (pl.base + off + j) (by omega) (by omega)
    simp only [World.frozen?, Nat.add_zero, hC]
    simp only [Bool.and_eq_false_iff, decide_eq_false_iff_not]
    by_cases hlo : lo ≤ pl.base + off + j
    · right; intro hh; exact hf ⟨hlo, hh⟩
    · left; exact hlo

theorem write_run (hw : WR P σ h w) {id off : Nat} {vs : List V} (hwr : h.write id off vs = some h') {pl : Pl} (hp : σ id = some pl) {xs : List Value} (hxs : concs σ vs = some xs) :
    (storeCells (pl.at off) xs).run P w = .ok () (w.setCells pl.blk (pl.base + off) xs) ∧ WR P σ h' (w.setCells pl.blk (pl.base + off) xs) ∧ Ext σ h w σ h' (w.setCells pl.blk (pl.base + off) xs) := by
  unfold Hp.write at hwr
  split at hwr
  · next cs ty op sb fz hg =>
    revert hwr
    cases hb : (allNum vs && Nat.ble fz off) with
    | false => intro hwr; cases hwr
    | true =>
      intro hwr
      rw [Bool.and_eq_true] at hb
      have hfz := Nat.le_of_ble_eq_true hb.2
      simp only [cond_true] at hwr
      split at hwr
      · next cs' hcs' =>
        cases hwr
        have hlen := concs_length hxs
        obtain ⟨pl', hp', C, lo, hi, h1, h2, h3, h4, h5⟩ := hw.blk _ _ hg
        rw [hp] at hp'; cases hp'
        have hput := putAt_get _ _ _ _ hcs'
        have hpl := putAt_length _ _ _ _ hcs'
        have hfit : xs = [] ∨ pl.base + off + xs.length ≤ C.size := by
          rcases putAt_some _ _ _ _ hcs' with h6 | h6
          · cases xs with
            | nil => exact .inl rfl
            | cons x xs =>
              right
              have hlast : cs[off + (vs.length - 1)]? = some (cs[off + (vs.length - 1)]'(by rw [← hlen] at h6 ⊢; simp at h6 ⊢; omega)) := List.getElem?_eq_getElem _
              obtain ⟨_, _, q⟩ := h2 _ _ hlast
              have := (Array.getElem?_eq_some_iff.1 q).1
              rw [← hlen] at this
              simp at this ⊢; omega
          · left
            rw [h6] at hlen
            exact List.eq_nil_of_length_eq_zero (by simpa using hlen)
        rcases hfit with rfl | hfit
        · -- nothing is written
          have hv : vs = [] := List.eq_nil_of_length_eq_zero (by simpa using hlen.symm)
          subst hv
          have : cs' = cs := by cases cs <;> simp [putAt] at hcs' <;> simp [← hcs']
          subst this
          refine ⟨rfl, ?_⟩
          exact hw.put hg hp rfl (fun _ _ => rfl) rfl ⟨rfl, rfl, rfl⟩ ⟨C, lo, hi, h1, h2, h3, h4, h5⟩
        · obtain ⟨C', f1, f2, f3⟩ := setCells_heap pl.blk xs (pl.base + off) w C ty (lo, hi) h1 hfit
          have hone := oneCells_of hb.1 hxs
          refine ⟨store_run h1 hfit (fun j hj hjs => h3 rfl j (by omega) hjs) hone, ?_⟩
          refine hw.put hg hp rfl (fun b hb' => setCells_other _ _ _ _ _ hb') (setCells_size _ _ _ _) (setCells_calm _ _ _ _) ⟨C', lo, hi, f1, fun i v hv => ?_, fun _ j hj hjs => h3 rfl j hj (by omega), h4, ?_⟩
          · rw [hput] at hv
            rw [f3]
            split at hv
            · next hr =>
              obtain ⟨x, q1, q2⟩ := concs_get hxs hv
              refine ⟨x, q1, ?_⟩
              rw [if_pos (by omega)]
              have : pl.base + i - (pl.base + off) = i - off := by omega
              rw [this]; exact q2
            · next hr =>
              obtain ⟨x, q1, q2⟩ := h2 _ _ hv
              refine ⟨x, q1, ?_⟩
              rw [if_neg (by omega)]; exact q2
          · cases op with
            | none => exact ⟨h5.1, by rw [f2, h5.2, hpl]⟩
            | some e => exact ⟨h5.1, h5.2.1, by rw [f2]; exact h5.2.2.1, by rw [hpl]; exact h5.2.2.2⟩
      · cases hwr
  · cases hwr

/-- What an effect comes to. -/
def EOK (P : Program) (σ : Sg) (h : Hp) (w : World) (s : Sem Next) (v : V) (h' : Hp) : Prop :=
  ∃ σ' w' x r, s.run P w = .ok r w' ∧ (r = .value x ∨ (r = .skip ∧ x = undef)) ∧ conc σ' v = some x ∧ WR P σ' h' w' ∧ Ext σ h w σ' h' w'

theorem eev_st (c : Cx P σ tm h w a) {o : Oper} {t : TypeId} {x y : Operand} (ho : o.op = .store t x y) {n : Nat} {x' y' : AO} (hs : szOf P t = some n) (hx : cOpnd P x = some x') (hy : cOpnd P y = some y')
    {v : V} (hv : stV n (x'.ev tm) (y'.ev tm) h = some (v, h')) : EOK P σ h w (execOp a.eval o) v h' := by
  unfold stV at hv
  split at hv
  · next _ id off u e1 e2 =>
    revert hv
    cases hb : Nat.beq u.cells.length n with
    | false => intro hv; cases hv
    | true =>
      intro hv
      have hl := Nat.eq_of_beq_eq_true hb
      simp only [cond_true, tuO] at hv
      split at hv
      · next h1 hwr =>
        cases hv
        have q1 := opnd c hx e1
        have q2 := opnd c hy e2
        obtain ⟨pl, hp, hxe⟩ := conc_p_inv q1
        have hcl := conc_cells q2
        obtain ⟨r1, r2, r3⟩ := write_run c.wr hwr hp hcl
        have hsz : (a.eval y).cells.size = n := by have := concs_length hcl; simp at this; omega
        refine ⟨σ, _, undef, .skip, ?_, .inr ⟨rfl, rfl⟩, rfl, r2, r3⟩
        have hn := szOf_run (w := w) hs
        simp only [execOp, ho, hxe]
        simp [Instr.storeAt, Instr.sureAddr, storeVar, hn, hsz, r1]
      · cases hv
  · cases hv

end Go.Proofs.YtgnpoaoekhplhaaGreatDoor.AE
namespace Go.Proofs.YtgnpoaoekhplhaaGreatDoor.AE
open Go
variable {P : Program} {w w' : World} {σ σ' : Sg} {tm : Tm} {a : Act} {h h' : Hp}

theorem elems_run (hw : WR P σ h w) {esz : Nat} {y : V} {y' : Value} {new : List V} {n : Nat} (hy : conc σ y = some y') (he : elemsOf h esz y = some (new, n)) :
    ∃ N, concs σ new = some N ∧ N.length = n * esz ∧ (∀ w2 : World, (Builtin.lenOf y').run P w2 = .ok n w2) ∧
      ∀ w2 : World, w2.heap = w.heap → (Builtin.firstCells esz n y').run P w2 = .ok N.toArray w2 := by
  unfold elemsOf at he
  split at he
  · cases he
    simp only [conc] at hy; cases hy
    exact ⟨[], rfl, by simp, fun w2 => by simp [Builtin.lenOf], fun w2 _ => by simp [Builtin.firstCells]⟩
  · next id off len cap =>
    split at he
    · next cs hcs =>
      cases he
      obtain ⟨pl, k, hp, rfl, _⟩ := conc_sl_inv hy
      rw [Hp.cells_eq] at hcs
      obtain ⟨N, e1, e2, e3⟩ := cells_of hw hp hcs
      refine ⟨N, e1, e2, fun w2 => by simp [Builtin.lenOf], fun w2 h2 => ?_⟩
      have := run_loadCells_list (P := P) w2 (pl.at off) N (fun j v hj => by
        have := e3 j v hj
        simpa [World.cell?, h2] using this)
      rw [e2] at this
      simp [Builtin.firstCells, this]
    · cases he
  · next l =>
    revert he
    cases hb : Nat.beq esz 1 with
    | false => intro he; cases he
    | true =>
      intro he; cases he
      have := Nat.eq_of_beq_eq_true hb
      subst this
      simp only [conc] at hy; cases hy
      have hsz : (⟨l.toArray⟩ : ByteArray).size = l.length := by show l.toArray.size = _; simp
      have hN : ∀ m : List UInt8, concs σ (m.map fun c => V.i .u8 (.ofNat c.toNat)) = some (m.map fun c => Value.int .u8 c.toNat) := by
        intro m
        induction m with
        | nil => rfl
        | cons c m ih => exact concs_mk rfl ih
      refine ⟨_, hN l, by simp, fun w2 => by simp [Builtin.lenOf, hsz], fun w2 _ => ?_⟩
      simp only [Builtin.firstCells]
      have : (⟨l.toArray⟩ : ByteArray).extract 0 l.length = ⟨l.toArray⟩ := by
        rw [extract_mk]; simp
      rw [this]
      simp
  · cases he

/-- The new capacity. -/
theorem cut_ge (need old : Nat) (e : TypeId) (t : Nat) : need ≤ (Question.appendCap need old e).cut t := by
  simp [Question.cut]

/-- What append is compiled from. -/
structure AppC (P : Program) (t t2 ty : TypeId) (i : TypeInfo) : Prop where
  ht : P.underlying t = some (.slice ty)
  ht2 : (∃ e2, P.underlying t2 = some (.slice e2)) ∨ P.underlying t2 = some .string
  hi : P.info? ty = some i
  hz : ∃ z, i.zero = some z ∧ z.cells.size = i.size
  hs : 0 < i.size
  hb : 0 < i.bytes

theorem zeroCells_size (z : Array Value) (n : Nat) : (Builtin.zeroCells z n).size = n * z.size := by simp [Builtin.zeroCells]

theorem noInt {t2 : TypeId} (h : (∃ e2, P.underlying t2 = some (.slice e2)) ∨ P.underlying t2 = some .string) (w2 : World) :
    (do pure ((← underlying t2) matches .int _) : Sem Bool).run P w2 = .ok false w2 := by
  rcases h with ⟨e2, h⟩ | h <;> simp [run_underlying h]

theorem growBy_le (need : Nat) : ∀ (k c : Nat), Builtin.growBy need k c ≤ 2 ^ k * (c + 256) := by
  intro k
  induction k with
  | zero => intro c; simp [Builtin.growBy]
  | succ k ih =>
    intro c
    simp only [Builtin.growBy]
    split
    · have : 1 ≤ 2 ^ (k + 1) := Nat.one_le_two_pow
      exact Nat.le_trans (by omega : c ≤ 1 * (c + 256)) (Nat.mul_le_mul_right _ this)
    · have := ih (c + (c + 768) / 4)
      refine Nat.le_trans this ?_
      rw [Nat.pow_succ, Nat.mul_assoc]
      apply Nat.mul_le_mul_left
      omega

theorem nextslicecap_le (need old : Nat) : Builtin.nextslicecap need old ≤ need + 16 * (old + 256) := by
  unfold Builtin.nextslicecap
  split
  · omega
  · split
    · omega
    · have h4 : Builtin.growBy need 4 old ≤ 16 * (old + 256) := growBy_le need 4 old
      exact Nat.le_trans h4 (Nat.le_add_left _ _)

/-- Append where there is room. -/
theorem app_room {t t2 ty rt : TypeId} {i : TypeInfo} (hc : AppC P t t2 ty i) {base : Option Addr} {sLen sCap n : Nat} {y' : Value} {N : List Value}
    (hlen : (Builtin.lenOf y').run P w = .ok n w) (hfirst : (Builtin.firstCells i.size n y').run P w = .ok N.toArray w) (hr : sLen + n ≤ sCap)
    (hst : ∀ A, base = some A → (storeCells (A.add (sLen * i.size)) N).run P w = .ok () w') (hnil : base = none → w' = w) :
    (Builtin.append_ #[t, t2] rt #[.slice base sLen sCap, y']).run P w = .ok (.slice base (sLen + n) sCap) w' := by
  have h2 := noInt hc.ht2 w
  rcases hc.ht2 with ⟨e2, ht2⟩ | ht2
  all_goals
    cases base with
    | none =>
      obtain rfl := hnil rfl
      simp [Builtin.append_, run_underlying hc.ht, run_underlying ht2, sizeOf, typeInfo, hc.hi, hlen, hr, hfirst]
    | some A =>
      have := hst A rfl
      simp [Builtin.append_, run_underlying hc.ht, run_underlying ht2, sizeOf, typeInfo, hc.hi, hlen, hr, hfirst, this]

/-- Append where there is none. -/
theorem app_grow {t t2 ty rt : TypeId} {i : TypeInfo} (hc : AppC P t t2 ty i) {base : Option Addr} {sLen sCap n : Nat} {y' : Value} {N Old : List Value}
    (hlen : (Builtin.lenOf y').run P w = .ok n w) (hfirst : (Builtin.firstCells i.size n y').run P w.drew = .ok N.toArray w.drew)
    (hold : (Builtin.firstCells i.size sLen (.slice base sLen sCap)).run P w.drew = .ok Old.toArray w.drew) (hr : sCap < sLen + n)
    (hneed : (sLen + n) * i.bytes ≤ bigB) (hcap : sCap * i.bytes ≤ bigB) (hbytes : i.bytes ≤ 65536) :
    ∃ newCap z, sLen + n ≤ newCap ∧ i.zero = some z ∧ (Builtin.append_ #[t, t2] rt #[.slice base sLen sCap, y']).run P w =
      .ok (.slice (some ⟨w.heap.size, 0, none⟩) (sLen + n) newCap) (w.drew.alloc (.cells ((Old ++ N).toArray ++ Builtin.zeroCells z.cells (newCap - (sLen + n))) ty)) := by
  obtain ⟨z, hz, hzs⟩ := hc.hz
  refine ⟨(Question.appendCap (sLen + n) sCap ty).cut (w.tape w.drawn (.appendCap (sLen + n) sCap ty)), z, cut_ge _ _ _ _, hz, ?_⟩
  have hb := hc.hb
  have hneed' : sLen + n ≤ bigB := Nat.le_trans (Nat.le_mul_of_pos_right _ hb) hneed
  have hbig : bigB = 1099511627776 := rfl
  have h63 : ¬ (9223372036854775807 < ((sLen : Int) + (n : Int))) := by omega
  have h48 : ¬ (281474976710656 < Builtin.nextslicecap (sLen + n) sCap * i.bytes) := by
    have h1 := Nat.mul_le_mul_right i.bytes (nextslicecap_le (sLen + n) sCap)
    have h2 : (sLen + n + 16 * (sCap + 256)) * i.bytes = (sLen + n) * i.bytes + 16 * (sCap * i.bytes) + 4096 * i.bytes := by
      have h3 : (sCap + 256) * i.bytes = sCap * i.bytes + 256 * i.bytes := Nat.add_mul _ _ _
      rw [Nat.add_mul, Nat.mul_assoc, h3]; omega
    rw [h2] at h1
    omega
  have hn : ¬ (sLen + n ≤ sCap) := by omega
  have e : (Old ++ N).toArray = Old.toArray ++ N.toArray := by simp
  rcases hc.ht2 with ⟨e2, ht2⟩ | ht2
  all_goals
    simp [Builtin.append_, run_underlying hc.ht, run_underlying ht2, sizeOf, typeInfo, zeroValue, hc.hi, hz, hlen, hn, h63, h48, Question.forced, hfirst, hold, newRow]
    rw [e, Array.append_assoc]

end Go.Proofs.YtgnpoaoekhplhaaGreatDoor.AE
namespace Go.Proofs.YtgnpoaoekhplhaaGreatDoor.AE
open Go
variable {P : Program} {w w' : World} {σ σ' : Sg} {tm : Tm} {a : Act} {h h' h0 : Hp}

theorem grow_some {ty esz bytes n : Nat} {cs : List V} {sb : Bool} {fz : Nat} {v : V} (hv : grow h0 ty esz bytes n cs sb fz = some (v, h')) :
    n * bytes ≤ bigB ∧ allNum cs = true ∧ v = .sl h0.nx 0 n none ∧ h' = h0.add (.c cs ty (some esz) false sb fz) := by
  unfold grow at hv
  revert hv
  cases hb : (Nat.ble (n * bytes) bigB && allNum cs) with
  | false => intro hv; cases hv
  | true =>
    intro hv
    simp only [cond_true, Option.some.injEq, Prod.mk.injEq] at hv
    rw [Bool.and_eq_true] at hb
    exact ⟨Nat.le_of_ble_eq_true hb.1, hb.2, hv.1.symm, hv.2.symm⟩

/-- A growing block's name. -/
theorem grow_new (hw : WR P σ h0 w) {ty esz n : Nat} {cs : List V} {sb : Bool} {fz : Nat} {Cs : List Value} (hcs : concs σ cs = some Cs) (hlen : Cs.length = n * esz) (hpos : 0 < esz)
    {newCap : Nat} (hcap : n ≤ newCap) {Z : Array Value} (hZ : Z.size = (newCap - n) * esz) :
    ∃ σ', conc σ' (.sl h0.nx 0 n none) = some (.slice (some ⟨w.heap.size, 0, none⟩) n newCap) ∧
      WR P σ' (h0.add (.c cs ty (some esz) false sb fz)) (w.drew.alloc (.cells (Cs.toArray ++ Z) ty)) ∧
      Ext σ h0 w σ' (h0.add (.c cs ty (some esz) false sb fz)) (w.drew.alloc (.cells (Cs.toArray ++ Z) ty)) := by
  have hw' : WR P σ h0 w.drew := hw.heap rfl
  have hle : σ.le (σ.up h0.nx ⟨w.heap.size, 0, newCap, esz⟩) := Sg.le_up _ (hw.dom _ (Nat.le_refl _))
  have hmul : n * esz + (newCap - n) * esz = newCap * esz := by rw [← Nat.add_mul]; congr 1; omega
  have hCsz : (Cs.toArray ++ Z).size = newCap * esz := by simp [hlen, hZ, hmul]
  have hok : BlkOK P (σ.up h0.nx ⟨w.heap.size, 0, newCap, esz⟩) (w.drew.alloc (.cells (Cs.toArray ++ Z) ty)) ⟨w.heap.size, 0, newCap, esz⟩ (.c cs ty (some esz) false sb fz) := by
    refine ⟨Cs.toArray ++ Z, 0, 0, ?_, fun i v hv => ?_, fun _ j _ _ hh => by omega, fun _ _ => .inl rfl, hpos, rfl, ?_, ?_⟩
    · show (w.heap.push _)[w.heap.size]? = _
      simp
    · obtain ⟨x, q1, q2⟩ := concs_get hcs hv
      refine ⟨x, conc_mono hle _ _ q1, ?_⟩
      have hi : i < Cs.length := (List.getElem?_eq_some_iff.1 q2).1
      rw [Nat.zero_add, Array.getElem?_append_left (by simpa using hi)]
      simpa using q2
    · rw [Nat.zero_add, hCsz]; exact Nat.le_refl _
    · have := concs_length hcs
      rw [← this, hlen]; exact Nat.mul_le_mul_right _ hcap
  obtain ⟨r1, r2⟩ := hw'.alloc (w' := w.drew.alloc (.cells (Cs.toArray ++ Z) ty)) (pl := ⟨w.heap.size, 0, newCap, esz⟩) (obj := .cells (Cs.toArray ++ Z) ty) rfl rfl ⟨rfl, rfl, rfl⟩ hok
  refine ⟨_, ?_, r1, ⟨r2.le, r2.size, r2.keep, r2.wr, r2.nm, r2.nx, r2.new, r2.tape, r2.os, r2.output⟩⟩
  simp only [conc, Sg.up_same, Pl.at]
  simp

theorem appV_sound (hw : WR P σ h w) {t t2 ty rt : TypeId} {i : TypeInfo} (hc : AppC P t t2 ty i) (hbytes : i.bytes ≤ 65536) {x y v : V} {x' y' : Value} (hx : conc σ x = some x') (hy : conc σ y = some y')
    (hv : appV h ty i.size i.bytes x y = some (v, h')) :
    ∃ σ' w' z, (Builtin.append_ #[t, t2] rt #[x', y']).run P w = .ok z w' ∧ conc σ' v = some z ∧ WR P σ' h' w' ∧ Ext σ h w σ' h' w' := by
  have hpos := hc.hs
  unfold appV at hv
  split at hv
  · cases hv
  · next new n hel =>
    obtain ⟨N, n1, n2, n3, n4⟩ := elems_run hw hy hel
    split at hv
    · -- onto nil
      simp only [conc] at hx; cases hx
      revert hv
      cases hb : Nat.beq n 0 with
      | true =>
        intro hv
        have := Nat.eq_of_beq_eq_true hb
        subst this
        simp only [cond_true, Option.some.injEq, Prod.mk.injEq] at hv
        obtain ⟨rfl, rfl⟩ := hv
        refine ⟨σ, w, _, app_room hc (n3 w) (n4 w rfl) (Nat.le_refl _) (fun A e => by cases e) (fun _ => rfl), rfl, hw, Ext.refl _ _ _⟩
      | false =>
        intro hv
        simp only [cond_false] at hv
        have hn0 : n ≠ 0 := Nat.ne_of_beq_eq_false hb
        obtain ⟨g1, g2, rfl, rfl⟩ := grow_some hv
        obtain ⟨newCap, z, k1, k2, k3⟩ := app_grow (rt := rt) (base := none) (sLen := 0) (sCap := 0) (Old := []) hc (n3 w) (n4 w.drew rfl) (by simp [Builtin.firstCells]) (by omega) (by simpa using g1) (by simp) hbytes
        obtain ⟨z', hz', hzs⟩ := hc.hz
        rw [k2] at hz'; cases hz'
        obtain ⟨σ', q1, q2, q3⟩ := grow_new (ty := ty) (sb := false) (fz := 0) hw n1 n2 hpos (newCap := newCap) (by omega) (Z := Builtin.zeroCells z.cells (newCap - (0 + n))) (by rw [zeroCells_size, hzs]; congr 1; omega)
        refine ⟨σ', _, _, k3, ?_, ?_, ?_⟩
        · simpa using q1
        · simpa using q2
        · simpa using q3
    · -- a slice whose capacity is known
      next id off len cap =>
      obtain ⟨pl, k, hp, rfl, hk⟩ := conc_sl_inv hx
      have hk' : k = cap := hk
      subst hk'
      revert hv
      cases hb : Nat.ble (len + n) k with
      | true =>
        intro hv
        have hroom := Nat.le_of_ble_eq_true hb
        simp only [cond_true] at hv
        split at hv
        · next h1 hwr =>
          cases hv
          obtain ⟨r1, r2, r3⟩ := write_run hw hwr hp n1
          refine ⟨σ, _, _, app_room hc (n3 w) (n4 w rfl) hroom (fun A e => ?_) (fun e => by cases e), by simp only [conc, hp], r2, r3⟩
          cases e
          rw [pl_add]; exact r1
        · cases hv
      | false =>
        intro hv
        simp only [cond_false] at hv
        have hno : k < len + n := by
          rcases Nat.lt_or_ge k (len + n) with h1 | h1
          · exact h1
          · rw [Nat.ble_eq_true_of_le h1] at hb; cases hb
        revert hv
        cases hb2 : Nat.ble (k * i.bytes) bigB with
        | false => intro hv; cases hv
        | true =>
          intro hv
          have hkb := Nat.le_of_ble_eq_true hb2
          simp only [cond_true] at hv
          split at hv
          · next old hold =>
            rw [Hp.cells_eq] at hold
            obtain ⟨Old, o1, o2, o3⟩ := cells_of hw hp hold
            have hfo : (Builtin.firstCells i.size len (.slice (some (pl.at off)) len k)).run P w.drew = .ok Old.toArray w.drew := by
              have := run_loadCells_list (P := P) w.drew (pl.at off) Old o3
              rw [o2] at this
              simp [Builtin.firstCells, this]
            obtain ⟨g1, g2, rfl, rfl⟩ := grow_some hv
            obtain ⟨newCap, z, k1, k2, k3⟩ := app_grow (rt := rt) (base := some (pl.at off)) (sLen := len) (sCap := k) (Old := Old) hc (n3 w) (n4 w.drew rfl) hfo hno g1 hkb hbytes
            obtain ⟨z', hz', hzs⟩ := hc.hz
            rw [k2] at hz'; cases hz'
            obtain ⟨σ', q1, q2, q3⟩ := grow_new (ty := ty) (sb := false) (fz := 0) hw (concs_append o1 n1) (by rw [List.length_append, o2, n2, ← Nat.add_mul]) hpos (newCap := newCap) k1 (Z := Builtin.zeroCells z.cells (newCap - (len + n))) (by rw [zeroCells_size, hzs])
            exact ⟨σ', _, _, k3, q1, q2, q3⟩
          · cases hv
    · -- a growing slice
      next id off len =>
      obtain ⟨pl, k, hp, rfl, hk⟩ := conc_sl_inv hx
      have hk' : k = pl.ecap - off / pl.esz := hk
      split at hv
      · next cs ty' e sb fz hg =>
        revert hv
        cases hb : (Nat.beq ty ty' && Nat.beq e i.size && Nat.ble fz (off + len * i.size) && Nat.beq (off % i.size) 0 && Nat.ble off cs.length) with
        | false => intro hv; cases hv
        | true =>
          intro hv
          rw [Bool.and_eq_true, Bool.and_eq_true, Bool.and_eq_true, Bool.and_eq_true] at hb
          have e1 := Nat.eq_of_beq_eq_true hb.1.1.1.1
          have e2 := Nat.eq_of_beq_eq_true hb.1.1.1.2
          have e3 := Nat.le_of_ble_eq_true hb.1.1.2
          have e4 := Nat.eq_of_beq_eq_true hb.1.2
          have e5 := Nat.le_of_ble_eq_true hb.2
          subst e1; subst e2
          simp only [cond_true] at hv
          split at hv
          · next old hold0 =>
            have hold : cellsN off (len * i.size) (h.get id) = some old := by rw [hg]; exact hold0
            obtain ⟨Old, o1, o2, o3⟩ := cells_of hw hp hold
            obtain ⟨g1, g2, rfl, rfl⟩ := grow_some hv
            obtain ⟨pl', hp', C, lo, hi, b1, b2, b3, b4, b5, b6, b7, b8⟩ := hw.blk _ _ hg
            have b3 := b3 rfl
            have b4 := b4 rfl
            rw [hp] at hp'; cases hp'
            obtain ⟨kw, ke⟩ := hw.kill id
            have hconcs := concs_append o1 n1
            by_cases hroom : len + n ≤ k
            · -- within its capacity
              have hq : off = i.size * (off / i.size) := by
                have := Nat.div_add_mod off i.size; omega
              have hkk : k = pl.ecap - off / i.size := by rw [hk', b6]
              have hle1 : off / i.size ≤ pl.ecap ∨ k = 0 := by omega
              have hN : N.length = n * i.size := n2
              have hmulk : (off / i.size + k) * i.size ≤ pl.ecap * i.size ∨ k = 0 := by
                rcases hle1 with h1 | h1
                · left; exact Nat.mul_le_mul_right _ (by omega)
                · right; exact h1
              have hoff : off = (off / i.size) * i.size := by rw [Nat.mul_comm]; exact hq
              have hbound : pl.base + off + k * i.size ≤ C.size ∨ k = 0 := by
                rcases hmulk with h1 | h1
                · left
                  rw [Nat.add_mul, ← hoff] at h1
                  omega
                · right; exact h1
              have hfit : N = [] ∨ pl.base + (off + len * i.size) + N.length ≤ C.size := by
                rcases hbound with h1 | h1
                · right
                  have h2 : (len + n) * i.size ≤ k * i.size := Nat.mul_le_mul_right _ hroom
                  rw [Nat.add_mul] at h2
                  rw [hN]; omega
                · left
                  have : n = 0 := by omega
                  rw [this] at hN
                  exact List.eq_nil_of_length_eq_zero (by simpa using hN)
              have hone := oneCells_of g2 hconcs
              have hone' : ∀ x ∈ N, x.oneCell' = true := fun x hx => hone x (List.mem_append_right _ hx)
              -- the block behind the writing
              have hheap : ∃ C', (w.setCells pl.blk (pl.base + (off + len * i.size)) N).heap[pl.blk]? = some (.cells C' ty (lo, hi)) ∧ C'.size = C.size ∧
                  ∀ j : Nat, C'[j]? = if pl.base + (off + len * i.size) ≤ j ∧ j < pl.base + (off + len * i.size) + N.length then N[j - (pl.base + (off + len * i.size))]? else C[j]? := by
                rcases hfit with h1 | h1
                · subst h1
                  exact ⟨C, b1, rfl, fun j => by rw [if_neg (by simp)]⟩
                · exact setCells_heap pl.blk N _ w C ty (lo, hi) b1 h1
              obtain ⟨C', f1, f2, f3⟩ := hheap
              have hrun : (storeCells (pl.at (off + len * i.size)) N).run P w = .ok () (w.setCells pl.blk (pl.base + (off + len * i.size)) N) := by
                rcases hfit with h1 | h1
                · subst h1; rfl
                · exact store_run b1 h1 (fun j hj hjs => b3 j (by omega) hjs) hone'
              let pl2 : Pl := ⟨pl.blk, pl.base + off, pl.ecap - off / i.size, i.size⟩
              have hle : σ.le (σ.up h.nx pl2) := Sg.le_up _ (hw.dom _ (Nat.le_refl _))
              have holdlen : old.length = len * i.size := by rw [← concs_length o1, o2]
              have holdget : ∀ (j : Nat) (u : V), old[j]? = some u → cs[off + j]? = some u := by
                intro j u hu
                obtain ⟨q1, _⟩ := takeN_some _ _ _ hold0
                rw [q1, List.getElem?_take] at hu
                split at hu
                · rw [dropN_eq, List.getElem?_drop] at hu; exact hu
                · cases hu
              have hok : BlkOK P (σ.up h.nx pl2) (w.setCells pl.blk (pl.base + (off + len * i.size)) N) pl2 (.c (old ++ new) ty (some i.size) false sb (fz - off)) := by
                refine ⟨C', lo, hi, f1, fun j u hu => ?_, fun _ j hj hjs => b3 j (by simp only [pl2] at hj; omega) (by omega), fun _ hs => ?_, hpos, rfl, ?_, ?_⟩
                · simp only [pl2]
                  rw [f3]
                  by_cases hj : j < old.length
                  · rw [List.getElem?_append_left hj] at hu
                    obtain ⟨x, q1, q2⟩ := b2 _ _ (holdget _ _ hu)
                    refine ⟨x, conc_mono hle _ _ q1, ?_⟩
                    rw [if_neg (by omega), Nat.add_assoc]; exact q2
                  · rw [List.getElem?_append_right (by omega)] at hu
                    obtain ⟨x, q1, q2⟩ := concs_get n1 hu
                    refine ⟨x, conc_mono hle _ _ q1, ?_⟩
                    have hlt := (List.getElem?_eq_some_iff.1 q2).1
                    rw [if_pos (by omega)]
                    have : pl.base + off + j - (pl.base + (off + len * i.size)) = j - old.length := by omega
                    rw [this]; exact q2
                · rcases b4 hs with h1 | h1
                  · exact .inl h1
                  · right; simp only [pl2]; omega
                · simp only [pl2]
                  rw [f2]
                  rcases hle1 with h1 | h1
                  · have h3 : (pl.ecap - off / i.size) * i.size + off = pl.ecap * i.size := by
                      rw [Nat.sub_mul, ← hoff]
                      have := Nat.mul_le_mul_right i.size h1
                      rw [← hoff] at this
                      omega
                    omega
                  · have h3 : pl.ecap - off / i.size = 0 := by omega
                    rw [h3]
                    obtain ⟨_, q2⟩ := takeN_some _ _ _ hold0
                    rw [dropN_eq] at q2
                    simp at q2
                    have hoc : off ≤ pl.ecap * i.size ∨ pl.ecap * i.size < off := by omega
                    rcases hoc with h5 | h5
                    · omega
                    · -- an empty slice beyond its block
                      omega
                · simp only [pl2]
                  rw [List.length_append, holdlen, ← concs_length n1, hN, ← Nat.add_mul]
                  exact Nat.mul_le_mul_right _ (by omega)
              have hfree : ∀ id' o' p', (h.kill id).get id' = some o' → σ id' = some p' → p'.blk ≠ pl2.blk := by
                intro id' o' p' q1 q2 q3
                rw [Hp.get_kill] at q1
                split at q1
                · cases q1
                · next hne => exact hne (hw.inj _ _ _ _ _ _ hg q1 rfl hp q2 q3.symm).symm
              have hkw := kw.add (pl := pl2) (o := .c (old ++ new) ty (some i.size) false sb (fz - off)) (w' := w.setCells pl.blk (pl.base + (off + len * i.size)) N) hfree
                (fun b hb' _ => setCells_other _ _ _ _ _ hb') hok
              have hcalm := setCells_calm pl.blk N (pl.base + (off + len * i.size)) w
              refine ⟨σ.up h.nx pl2, w.setCells pl.blk (pl.base + (off + len * i.size)) N, .slice (some (pl.at off)) (len + n) k, ?_, ?_, hkw, ⟨hle, ?_, fun b hb' hnw => ?_, fun b hb' hwr => ?_, fun b hb' hwr => ?_, Nat.le_succ _, fun id' hid => Sg.up_ne _ _ (by omega), hcalm.tape, hcalm.os, hcalm.output⟩⟩
              · exact app_room hc (n3 w) (n4 w rfl) hroom (fun A e => by cases e; rw [pl_add]; exact hrun) (fun e => by cases e)
              · show conc (σ.up h.nx pl2) (.sl h.nx 0 (len + n) none) = _
                simp only [conc, Sg.up_same, pl2, Pl.at]
                rw [Nat.zero_div, Nat.add_zero, Nat.sub_zero, hkk]
              · rw [setCells_size]; exact Nat.le_refl _
              · refine setCells_other _ _ _ _ _ (fun e => hnw ?_)
                exact ⟨id, _, pl, hg, rfl, hp, e.symm⟩
              · rcases Wr_add kw hwr with e | e
                · exact ⟨id, _, pl, hg, rfl, hp, e.symm⟩
                · exact ke.wr b hb' e
              · rcases Nm_add kw hwr with e | e
                · exact ⟨id, _, pl, hg, hp, e.symm⟩
                · exact ke.nm b hb' e
            · -- beyond it
              have hno : k < len + n := by omega
              have hkb : k * i.bytes ≤ bigB := Nat.le_trans (Nat.mul_le_mul_right _ (by omega)) g1
              have hfo : (Builtin.firstCells i.size len (.slice (some (pl.at off)) len k)).run P w.drew = .ok Old.toArray w.drew := by
                have := run_loadCells_list (P := P) w.drew (pl.at off) Old o3
                rw [o2] at this
                simp [Builtin.firstCells, this]
              obtain ⟨newCap, z, k1, k2, k3⟩ := app_grow (rt := rt) (base := some (pl.at off)) (sLen := len) (sCap := k) (Old := Old) hc (n3 w) (n4 w.drew rfl) hfo hno g1 hkb hbytes
              obtain ⟨z', hz', hzs⟩ := hc.hz
              rw [k2] at hz'; cases hz'
              obtain ⟨σ', q1, q2, q3⟩ := grow_new (ty := ty) (sb := sb) (fz := fz - off) kw hconcs (by rw [List.length_append, o2, n2, ← Nat.add_mul]) hpos (newCap := newCap) k1 (Z := Builtin.zeroCells z.cells (newCap - (len + n))) (by rw [zeroCells_size, hzs])
              exact ⟨σ', _, _, k3, q1, q2, ke.trans q3⟩
          · cases hv
      · cases hv
    · cases hv

end Go.Proofs.YtgnpoaoekhplhaaGreatDoor.AE
namespace Go.Proofs.YtgnpoaoekhplhaaGreatDoor.AE
open Go
variable {P : Program} {w w' : World} {σ σ' : Sg} {tm : Tm} {a : Act} {h h' : Hp}

/-! ### copy, clear -/
theorem cpy_run (c : Cx P σ tm h w a) {t t2 rt e : TypeId} (ts : Array TypeId) (ht0 : ts[0]? = some t) {esz : Nat} (ht : P.underlying t = some (.slice e)) (hs : szOf P e = some esz) {u u' v : V} {x y : Value}
    (hx : conc σ u = some x) (hy : conc σ u' = some y) (hv : cpyV esz (some u) (some u') h = some (v, h')) :
    ∃ w' z, (Builtin.copy_ ts rt #[x, y]).run P w = .ok z w' ∧ conc σ v = some z ∧ WR P σ h' w' ∧ Ext σ h w σ h' w' := by
  unfold cpyV at hv
  split at hv
  · next id off len cap id' off' len' cap' q1 q2 =>
    cases q1; cases q2
    have hmin : (bif Nat.ble len' len then len' else len) = Nat.min len' len := by
      cases hb : Nat.ble len' len with
      | true => have := Nat.le_of_ble_eq_true hb; simp only [cond_true]; exact (Nat.min_eq_left this).symm
      | false =>
        have : ¬ len' ≤ len := fun hh => by rw [Nat.ble_eq_true_of_le hh] at hb; cases hb
        simp only [cond_false]; exact (Nat.min_eq_right (by omega)).symm
    rw [hmin] at hv
    unfold cpyC at hv
    split at hv
    · next cs hcs =>
      unfold valO at hv
      split at hv
      · next h1 hwr =>
        cases hv
        obtain ⟨pl, k, hp, rfl, _⟩ := conc_sl_inv hx
        obtain ⟨pl', k', hp', rfl, _⟩ := conc_sl_inv hy
        rw [Hp.cells_eq] at hcs
        obtain ⟨N, n1, n2, n3⟩ := cells_of c.wr hp' hcs
        obtain ⟨r1, r2, r3⟩ := write_run c.wr hwr hp n1
        have hl := run_loadCells_list (P := P) w (pl'.at off') N n3
        rw [n2] at hl
        have hn := szOf_run (w := w) hs
        refine ⟨_, _, ?_, rfl, r2, r3⟩
        simp [Builtin.copy_, ht0, run_underlying ht, Builtin.lenOf, hn, Builtin.firstCells, hl, r1, goInt]
      · cases hv
    · cases hv
  · cases hv

theorem clr_run (c : Cx P σ tm h w a) {t rt e : TypeId} (ts : Array TypeId) (ht0 : ts[0]? = some t) (ht : P.underlying t = some (.slice e)) {i : TypeInfo} (hi : P.info? e = some i) {z : List V} (hz : cZero P e = some z)
    {u v : V} {x : Value} (hx : conc σ u = some x) (hv : clrV z (some u) h = some (v, h')) :
    ∃ w' y, (Builtin.clear_ ts rt #[x]).run P w = .ok y w' ∧ conc σ v = some y ∧ WR P σ h' w' ∧ Ext σ h w σ h' w' := by
  unfold clrV at hv
  split at hv
  · next q =>
    cases q; cases hv
    simp only [conc] at hx; cases hx
    exact ⟨w, _, by simp [Builtin.clear_, ht0, run_underlying ht], rfl, c.wr, Ext.refl _ _ _⟩
  · next id off cap q =>
    cases q; cases hv
    obtain ⟨pl, k, hp, rfl, _⟩ := conc_sl_inv hx
    exact ⟨w, _, by simp [Builtin.clear_, ht0, run_underlying ht], rfl, c.wr, Ext.refl _ _ _⟩
  · next id off len cap q =>
    cases q
    unfold tuO at hv
    split at hv
    · next h1 hwr =>
      cases hv
      obtain ⟨pl, k, hp, rfl, _⟩ := conc_sl_inv hx
      obtain ⟨zv, hz1, hz2⟩ := cZero_len (σ := σ) hz hi
      have hrep := concs_rep hz2 (len + 1)
      obtain ⟨r1, r2, r3⟩ := write_run c.wr hwr hp hrep
      have hmade : (Builtin.zeroCells zv.cells (len + 1)).toList = rep (len + 1) zv.cells.toList := by
        rw [← madeCells_rep]; rfl
      refine ⟨_, _, ?_, rfl, r2, r3⟩
      rw [← hmade] at r1
      simp [Builtin.clear_, ht0, run_underlying ht, zeroValue, typeInfo, hi, hz1, r1]
      rw [hmade]
    · cases hv
  · cases hv

/-! ### Strings out of bytes and bytes out of strings -/
theorem liesAt_bytes' {e : TypeId} (hc : P.cellsOf e = 1) (count off n : Nat) (hn : off + n ≤ count) : liesAt P P.depth e count off e n = true := by
  have hd : P.depth = (2 * (P.types.size + Made.depth) + 1) + 1 := rfl
  rw [hd]
  simp only [liesAt, Bool.or_eq_true]
  left
  rw [hd]
  simp [rowAt, hc, hn, sameLayout, Nat.mod_one]

theorem freeze_heap (w : World) (A : Addr) {n : Nat} (hn : n ≠ 0) {C : Array Value} {ty : TypeId} {lo hi : Nat} (hC : w.heap[A.block]? = some (.cells C ty (lo, hi))) :
    (w.freeze A n).heap[A.block]? = some (.cells C ty (if lo == hi then (A.off, A.off + n) else (min lo A.off, max hi (A.off + n)))) ∧
    (∀ b, b ≠ A.block → (w.freeze A n).heap[b]? = w.heap[b]?) ∧ (w.freeze A n).heap.size = w.heap.size ∧ Calm w (w.freeze A n) := by
  unfold World.freeze
  rw [if_neg hn]
  refine ⟨by simp [Array.getElem?_modify, hC], fun b hb => ?_, by simp, ⟨rfl, rfl, rfl⟩⟩
  simp only [Array.getElem?_modify]
  rw [if_neg (fun e => hb e.symm)]

theorem ust_run (c : Cx P σ tm h w a) {t rt e : TypeId} (ts : Array TypeId) (ht0 : ts[0]? = some t) (ht : P.underlying t = some (.pointer e)) (hs : szOf P e = some 1) {u u' v : V} {x y : Value}
    (hx : conc σ u = some x) (hy : conc σ u' = some y) (hv : ustV e (some u) (some u') h = some (v, h')) :
    ∃ w' z, (Builtin.unsafeString_ ts rt #[x, y]).run P w = .ok z w' ∧ conc σ v = some z ∧ WR P σ h' w' ∧ Ext σ h w σ h' w' := by
  unfold ustV at hv
  split at hv
  · next h0 id off k n q1 q2 =>
    cases q1; cases q2
    split at hv
    · next cs ty op fz hg =>
      revert hv
      cases hb : (Nat.beq e ty && Nat.beq off 0 && Nat.blt 0 n && Nat.ble n bigB) with
      | false => intro hv; cases hv
      | true =>
        intro hv
        rw [Bool.and_eq_true, Bool.and_eq_true, Bool.and_eq_true] at hb
        have e1 := Nat.eq_of_beq_eq_true hb.1.1.1
        have e2 := Nat.eq_of_beq_eq_true hb.1.1.2
        have e3 : 0 + 1 ≤ n := Nat.le_of_ble_eq_true hb.1.2
        have e4 := Nat.le_of_ble_eq_true hb.2
        subst e1; subst e2
        simp only [cond_true] at hv
        split at hv
        · next l hl =>
          split at hv
          · next s hsr =>
            cases hv
            obtain ⟨pl, hp, rfl⟩ := conc_p_inv hx
            simp only [conc] at hy; cases hy
            obtain ⟨pl', hp', C, lo, hi, b1, b2, b3, b4, b5⟩ := c.wr.blk _ _ hg
            rw [hp] at hp'; cases hp'
            have hcells : takeN (dropN cs 0) n = some l := by rw [dropN_eq]; exact hl
            obtain ⟨N, n1, n2, n3⟩ := cells_of c.wr hp (off := 0) (n := n) (l := l) (by rw [hg]; exact hcells)
            obtain ⟨ns, rfl, rfl⟩ := readBytes_conc hsr n1
            have hlen : ns.length = n := by simpa using n2
            -- the bytes
            have hns : ∀ (j : Nat) (m : Int), ns[j]? = some m → w.cell? ((pl.at 0).add j) = some (.int .u8 m) := fun j m hj => n3 j _ (by rw [List.getElem?_map, hj]; rfl)
            have hload : ∀ (ms : List Int) (A : Addr) (acc : ByteArray), (∀ (j : Nat) (m : Int), ms[j]? = some m → w.cell? (A.add j) = some (.int .u8 m)) →
                (loadBytes A acc ms.length).run P w = .ok ⟨acc.data ++ (ms.map fun m => UInt8.ofNat m.toNat).toArray⟩ w := by
              intro ms
              induction ms with
              | nil => intro A acc _; simp [loadBytes]
              | cons m ms ih =>
                intro A acc hm
                have h0 : w.cell? A = some (.int .u8 m) := by
                  have := hm 0 m rfl
                  simpa [Addr.add] using this
                have := ih (A.add 1) (acc.push m.toNat.toUInt8) (fun j m' hj => by
                  have hx := hm (j + 1) m' (by simpa using hj)
                  have e : (A.add 1).add j = A.add (j + 1) := by
                    unfold Addr.add
                    by_cases hj : j = 0
                    · subst hj; simp
                    · simp [hj]; omega
                  rw [e]; exact hx)
                simp only [List.length_cons, loadBytes, Sem.run_bind, run_load, h0, Result.andThen]
                rw [this]
                congr 1
                apply ByteArray.ext
                simp [ByteArray.push]
            have hrun := hload ns (pl.at 0) .empty hns
            rw [hlen] at hrun
            have hcell := cellsOf_eq hs
            have hCsz : pl.base + n ≤ C.size := by
              have hlast : (ns.map (Value.int .u8))[n - 1]? = some ((ns.map (Value.int .u8))[n - 1]'(by simp; omega)) := List.getElem?_eq_getElem _
              have := n3 _ _ hlast
              rw [pl_add] at this
              simp only [World.cell?, Pl.at, b1] at this
              simp at this
              have := (Array.getElem?_eq_some_iff.1 this).1
              omega
            have hlies := liesAt_bytes' (P := P) hcell (C.size / P.cellsOf e) pl.base n (by rw [hcell]; simpa using hCsz)
            have hshape : w.shape? pl.blk = some (e, C.size) := by simp [World.shape?, b1]
            obtain ⟨f1, f2, f3, f4⟩ := freeze_heap w (pl.at 0) (n := n) (by omega) b1
            have hput := c.wr.put (w' := w.freeze (pl.at 0) n) hg hp rfl f2 f3 f4 (o' := .c cs e op false false (bif Nat.ble fz n then n else fz)) (by
              have hmx : fz ≤ (bif Nat.ble fz n then n else fz) ∧ n ≤ (bif Nat.ble fz n then n else fz) := by
                cases hq : Nat.ble fz n with
                | true => exact ⟨Nat.le_of_ble_eq_true hq, Nat.le_refl _⟩
                | false =>
                  have : ¬ fz ≤ n := fun hh => by rw [Nat.ble_eq_true_of_le hh] at hq; cases hq
                  exact ⟨Nat.le_refl _, by simp only [cond_false]; omega⟩
              generalize (bif Nat.ble fz n then n else fz) = fz' at hmx ⊢
              have hold := b4 rfl
              have hfr : ∃ lo' hi', (w.freeze (pl.at 0) n).heap[pl.blk]? = some (.cells C e (lo', hi')) ∧ hi' ≤ pl.base + fz' := by
                by_cases hlh : lo = hi
                · have hq : (lo == hi) = true := by simp [hlh]
                  rw [hq] at f1
                  exact ⟨_, _, f1, by simp only [Pl.at]; omega⟩
                · have hq : (lo == hi) = false := by simp [hlh]
                  rw [hq] at f1
                  refine ⟨_, _, f1, ?_⟩
                  rcases hold rfl with h4 | h4
                  · exact absurd h4 hlh
                  · simp only [Pl.at]; omega
              obtain ⟨lo', hi', g1, g2⟩ := hfr
              exact ⟨C, lo', hi', g1, b2, fun _ j hj hjs hh => by omega, fun _ _ => .inr g2, b5⟩)
            refine ⟨w.freeze (pl.at 0) n, _, ?_, rfl, hput.1, hput.2⟩
            have hneg : ¬ ((Int.ofNat n) < 0) := by simp
            have hn0 : ¬ ((Int.ofNat n) = 0) := by
              intro hh
              have : (n : Int) = 0 := hh
              omega
            have hbigv : bigB = 1099511627776 := rfl
            have hmax : ¬ ((Int.ofNat n) > IntKind.i64.max) := by
              have h1 : IntKind.i64.max = 9223372036854775807 := rfl
              rw [h1]
              show ¬ ((n : Int) > 9223372036854775807)
              omega
            have hdata : (⟨ByteArray.empty.data ++ (ns.map fun m => UInt8.ofNat m.toNat).toArray⟩ : ByteArray) = ⟨(ns.map fun m => UInt8.ofNat m.toNat).toArray⟩ := by
              congr 1
              show (#[] : Array UInt8) ++ _ = _
              simp
            rw [hdata] at hrun
            have hdef := @_root_.id (Builtin.unsafeString_ ts rt #[.pointer (some (pl.at 0)), .int k (Int.ofNat n)] = bind (asInt (.int k (Int.ofNat n))) _) rfl
            rw [hdef, ht0]
            have hmx : IntKind.i64.max = 9223372036854775807 := rfl
            have h63' : ¬ (9223372036854775807 : Int) < (n : Int) := by omega
            have hneg' : ¬ (n : Int) < 0 := by omega
            have hnz : n ≠ 0 := by omega
            have hvar : (variablesAt (pl.at 0) e n).run P w = .ok true w := by
              have : (pl.at 0).off = pl.base := rfl
              simp only [variablesAt]
              simp [hshape, Pl.at, hlies]
            simp [asInt, asIntOf, hmx, h63', hneg', hnz, hvar, elemOf, run_underlying ht, hrun]
          · cases hv
        · cases hv
    · cases hv
  · cases hv

end Go.Proofs.YtgnpoaoekhplhaaGreatDoor.AE
namespace Go.Proofs.YtgnpoaoekhplhaaGreatDoor.AE
open Go
variable {P : Program} {w w' : World} {σ σ' : Sg} {tm : Tm} {a : Act} {h h' : Hp}

theorem s2b_run (hw : WR P σ h w) {src dst e : TypeId} (hs : P.underlying src = some .string) (hd : P.underlying dst = some (.slice e)) (he : P.underlying e = some (.int .u8)) {l : List UInt8} {v : V}
    (hv : grow h e 1 1 l.length (l.map (fun c => .i .u8 (.ofNat c.toNat))) true 0 = some (v, h')) :
    ∃ σ' w' z, (convert src dst (.string ⟨l.toArray⟩)).run P w = .ok z w' ∧ conc σ' v = some z ∧ WR P σ' h' w' ∧ Ext σ h w σ' h' w' := by
  obtain ⟨g1, g2, rfl, rfl⟩ := grow_some hv
  have hN : ∀ m : List UInt8, concs σ (m.map fun c => V.i .u8 (.ofNat c.toNat)) = some (m.map fun c => Value.int .u8 c.toNat) := by
    intro m
    induction m with
    | nil => rfl
    | cons c m ih => exact concs_mk rfl ih
  have hsz : (⟨l.toArray⟩ : ByteArray).size = l.length := by show l.toArray.size = _; simp
  let cap := (Question.appendCap l.length 0 e).cut (w.tape w.drawn (.appendCap l.length 0 e))
  have hcap : l.length ≤ cap := cut_ge _ _ _ _
  let C : Array Value := (l.map fun c => Value.int .u8 c.toNat).toArray ++ Array.replicate (cap - l.length) (.int .u8 0)
  have hCsz : C.size = cap := by simp [C]; omega
  let w1 := w.drew.alloc (.cells C e)
  have hw1 : w1.heap[w.heap.size]? = some (.cells C e (0, 0)) := by
    show (w.heap.push _)[w.heap.size]? = _
    simp
  let w2 := w1.freeze { block := w.heap.size, off := C.size } 1
  have hheap : w2.heap = w.heap.push (.cells C e (C.size, C.size + 1)) := by
    obtain ⟨f1, f2, f3, _⟩ := freeze_heap w1 { block := w.heap.size, off := C.size } (n := 1) (by omega) hw1
    apply Array.ext_getElem?
    intro i
    by_cases hi : i = w.heap.size
    · subst hi
      refine f1.trans ?_
      simp
    · refine (f2 i hi).trans ?_
      show (w.heap.push (.cells C e (0, 0)))[i]? = _
      rcases Nat.lt_or_ge i w.heap.size with h1 | h1
      · rw [Array.getElem?_push_lt h1, Array.getElem?_push_lt h1]
      · rw [Array.getElem?_eq_none (by simp; omega), Array.getElem?_eq_none (by simp; omega)]
  have hrun : (convert src dst (.string ⟨l.toArray⟩)).run P w = .ok (.slice (some ⟨w.heap.size, 0, none⟩) l.length cap) w2 := by
    have hshape : w1.shape? w.heap.size = some (e, C.size) := by simp [World.shape?, hw1]
    have hel : (⟨l.toArray⟩ : ByteArray).data.map (fun b => Value.int .u8 b.toNat) = (l.map fun c => Value.int .u8 c.toNat).toArray := by simp
    have hmark : (markStringish ⟨w.heap.size, 0, none⟩).run P w1 = .ok () w2 := by
      unfold markStringish
      simp [shape, Sem.run, hshape, freeze]
      rfl
    have hconv : (Conv.stringToBytes e ⟨l.toArray⟩).run P w = .ok (.slice (some ⟨w.heap.size, 0, none⟩) l.length cap) w2 := by
      unfold Conv.stringToBytes
      have hch : (choose (.appendCap l.length 0 e)).run P w = .ok cap w.drew := by
        simp [Question.forced, cap]
      have hnew : (newRow e (Array.map (fun b => Value.int .u8 (b.toNat : Int)) l.toArray ++ Array.replicate (cap - l.length) (.int .u8 0))).run P w.drew = .ok ⟨w.heap.size, 0, none⟩ w1 := by
        have : Array.map (fun b => Value.int .u8 (b.toNat : Int)) l.toArray = (l.map fun c => Value.int .u8 c.toNat).toArray := by simp
        rw [this]
        show Result.ok _ _ = _
        rfl
      simp only [Sem.run_bind, hch, Result.andThen_ok, hnew, hmark, Sem.run_pure, hsz]
    simp [convert, run_underlying hs, run_underlying hd, run_underlying he, hconv]
  have hle : σ.le (σ.up h.nx ⟨w.heap.size, 0, cap, 1⟩) := Sg.le_up _ (hw.dom _ (Nat.le_refl _))
  have hok : BlkOK P (σ.up h.nx ⟨w.heap.size, 0, cap, 1⟩) w2 ⟨w.heap.size, 0, cap, 1⟩ (.c (l.map fun c => .i .u8 (.ofNat c.toNat)) e (some 1) false true 0) := by
    refine ⟨C, C.size, C.size + 1, ?_, fun i u hu => ?_, fun _ j _ hj hh => by omega, fun _ hh => (by cases hh), by omega, rfl, ?_, ?_⟩
    · rw [hheap]; simp
    · obtain ⟨x, q1, q2⟩ := concs_get (hN l) hu
      refine ⟨x, conc_mono hle _ _ q1, ?_⟩
      have hi : i < (l.map fun c => Value.int .u8 c.toNat).length := (List.getElem?_eq_some_iff.1 q2).1
      rw [Nat.zero_add]
      simp only [C]
      rw [Array.getElem?_append_left (by simpa using hi)]
      simpa using q2
    · show 0 + cap * 1 ≤ C.size; rw [hCsz]; omega
    · show (l.map _).length ≤ cap * 1; simp; omega
  obtain ⟨r1, r2⟩ := hw.alloc (w' := w2) (pl := ⟨w.heap.size, 0, cap, 1⟩) (obj := .cells C e (C.size, C.size + 1)) rfl hheap ⟨rfl, rfl, rfl⟩ hok
  refine ⟨_, w2, _, hrun, ?_, r1, r2⟩
  simp only [conc, Sg.up_same, Pl.at]
  simp

theorem ev_some_or {x : AO} : (∃ v, x.ev tm = some v) ∨ x.ev tm = none := by
  cases x.ev tm with
  | none => exact .inr rfl
  | some v => exact .inl ⟨v, rfl⟩

/-- The effects that call nothing. -/
theorem eev_sound (c : Cx P σ tm h w a) {o : Oper} {ao : AOp} (hc : cOp P o = some ao) {v : V} (hv : eev ao tm h = some (v, h')) : EOK P σ h w (execOp a.eval o) v h' := by
  have fin : ∀ {s : Sem Value} {s' : Sem Next} {σ' : Sg} {w' : World} {z : Value}, (s.run P w = .ok z w' → s'.run P w = .ok (.value z) w') → s.run P w = .ok z w' → conc σ' v = some z → WR P σ' h' w' → Ext σ h w σ' h' w' → EOK P σ h w s' v h' :=
    fun f h1 h2 h3 h4 => ⟨_, _, _, _, f h1, .inl rfl, h2, h3, h4⟩
  unfold cOp at hc
  split at hc
  case h_9 =>   -- store
    next t x y ho =>
    split at hc
    · next n x' y' hs hx hy =>
      cases hc
      exact eev_st c ho hs hx hy hv
    · cases hc
  case h_13 =>   -- convert
    next src dst x ho =>
    split at hc
    · next y hy =>
      have hex : ∀ z w', (convert src dst (a.eval x)).run P w = .ok z w' → (execOp a.eval o).run P w = .ok (.value z) w' := by
        intro z w' hz; simp [execOp, ho, hz]
      split at hc
      case h_3 =>
        next e hs hd =>
        split at hc
        · next i he hi =>
          split at hc
          · cases hc
            have hv' : s2bV e (y.ev tm) h = some (v, h') := hv
            unfold s2bV at hv'
            split at hv'
            · next l h0 e1 =>
              have hx := opnd c hy e1
              simp only [conc, Option.some.injEq] at hx
              obtain ⟨σ', w', z, r1, r2, r3, r4⟩ := s2b_run c.wr hs hd he hv'
              exact ⟨σ', w', z, .value z, hex _ _ (by rw [← hx]; exact r1), .inl rfl, r2, r3, r4⟩
            · cases hv'
          · cases hc
        · cases hc
      all_goals
        exfalso
        repeat' (split at hc)
        all_goals first
          | (cases hc; done)
          | (cases hc; have hv' : (none : Option (V × Hp)) = some (v, h') := hv; cases hv'; done)
    · cases hc
  case h_22 =>   -- calls
    next cl ho =>
    split at hc
    · cases hc
    next args hargs =>
    split at hc
    case h_5 =>   -- append
      next hcal =>
      have key : ∀ (t t2 e : TypeId) (x y : AO) (i : TypeInfo) (z : List V), cl.argTypes[0]? = some t → cl.argTypes[1]? = some t2 → args = [x, y] → P.underlying t = some (.slice e) →
          ((∃ e2, P.underlying t2 = some (.slice e2)) ∨ P.underlying t2 = some .string) → P.info? e = some i → cZero P e = some z → (z.length = i.size ∧ 0 < i.size ∧ 0 < i.bytes ∧ i.bytes ≤ 65536) →
          ao = .app e i.size i.bytes x y → EOK P σ h w (execOp a.eval o) v h' := by
        intro t t2 e x y i z ht0 ht1 hae hu hu2 hi hz hcond hao
        subst hao hae
        obtain ⟨x0, y0, hca, hx, hy⟩ := opnds_two hargs
        have hv' : appO e i.size i.bytes (x.ev tm) (y.ev tm) h = some (v, h') := hv
        unfold appO at hv'
        split at hv'
        · next va vb h0 e1 e2 =>
          obtain ⟨zv, hz1, hz2⟩ := cZero_len (σ := σ) hz hi
          have hzl : zv.cells.size = i.size := by
            have := concs_length hz2
            simp at this; omega
          have hA : AppC P t t2 e i := ⟨hu, hu2, hi, ⟨zv, hz1, hzl⟩, hcond.2.1, hcond.2.2.1⟩
          obtain ⟨σ', w', z', r1, r2, r3, r4⟩ := appV_sound (rt := o.type) c.wr hA hcond.2.2.2 (opnd c hx e1) (opnd c hy e2) hv'
          have hts : Builtin.append_ cl.argTypes o.type #[a.eval x0, a.eval y0] = Builtin.append_ #[t, t2] o.type #[a.eval x0, a.eval y0] := by
            unfold Builtin.append_
            simp [ht0, ht1]
          refine ⟨σ', w', z', .value z', ?_, .inl rfl, r2, r3, r4⟩
          rw [← hts] at r1
          simp [execOp, ho, resolve, hcal, hca, invoke, builtin, r1]
        · cases hv'
      split at hc
      · next t t2 x y ht0 ht1 =>
        split at hc
        · next e e2 hu hu2 =>
          split at hc
          · next i z hi hz =>
            split at hc
            · next hcond => cases hc; exact key t t2 e x y i z ht0 ht1 rfl hu (.inl ⟨e2, hu2⟩) hi hz hcond rfl
            · cases hc
          · cases hc
        · next e hu hu2 =>
          split at hc
          · next i z hi hz =>
            split at hc
            · next hcond => cases hc; exact key t t2 e x y i z ht0 ht1 rfl hu (.inr hu2) hi hz hcond rfl
            · cases hc
          · cases hc
        · cases hc
      · cases hc
    case h_6 =>   -- copy
      next hcal =>
      split at hc
      · next t x y ht0 =>
        split at hc
        · next e hu =>
          obtain ⟨s, hs, rfl⟩ := map_some hc
          obtain ⟨x0, y0, hca, hx, hy⟩ := opnds_two hargs
          have hv' : cpyV s (x.ev tm) (y.ev tm) h = some (v, h') := hv
          rcases ev_some_or (tm := tm) (x := x) with ⟨u, e1⟩ | e1
          · rcases ev_some_or (tm := tm) (x := y) with ⟨u', e2⟩ | e2
            · rw [e1, e2] at hv'
              obtain ⟨w', z', r1, r2, r3, r4⟩ := cpy_run (rt := o.type) (t2 := t) c cl.argTypes ht0 hu hs (opnd c hx e1) (opnd c hy e2) hv'
              refine ⟨σ, w', z', .value z', ?_, .inl rfl, r2, r3, r4⟩
              simp [execOp, ho, resolve, hcal, hca, invoke, builtin, r1]
            · rw [e1, e2] at hv'; unfold cpyV at hv'; split at hv' <;> first | (cases hv'; done) | (cases ‹none = some _›)
          · rw [e1] at hv'; unfold cpyV at hv'; split at hv' <;> first | (cases hv'; done) | (cases ‹none = some _›)
        · cases hc
      · cases hc
    case h_7 =>   -- clear
      next hcal =>
      split at hc
      · next t x ht0 =>
        split at hc
        · next e hu =>
          split at hc
          · next i z hi hz =>
            split at hc
            · next hcond =>
              cases hc
              obtain ⟨x0, hca, hx⟩ := opnds_one hargs
              have hv' : clrV z (x.ev tm) h = some (v, h') := hv
              rcases ev_some_or (tm := tm) (x := x) with ⟨u, e1⟩ | e1
              · rw [e1] at hv'
                obtain ⟨w', z', r1, r2, r3, r4⟩ := clr_run (rt := o.type) c cl.argTypes ht0 hu hi hz (opnd c hx e1) hv'
                refine ⟨σ, w', z', .value z', ?_, .inl rfl, r2, r3, r4⟩
                simp [execOp, ho, resolve, hcal, hca, invoke, builtin, r1]
              · rw [e1] at hv'; unfold clrV at hv'; split at hv' <;> first | (cases hv'; done) | (cases ‹none = some _›)
            · cases hc
          · cases hc
        · cases hc
      · cases hc
    case h_11 =>   -- unsafe.String
      next hcal =>
      split at hc
      · next t x n ht0 =>
        split at hc
        · next e hu =>
          split at hc
          · next he hs =>
            cases hc
            obtain ⟨x0, y0, hca, hx, hy⟩ := opnds_two hargs
            have hv' : ustV e (x.ev tm) (n.ev tm) h = some (v, h') := hv
            rcases ev_some_or (tm := tm) (x := x) with ⟨u, e1⟩ | e1
            · rcases ev_some_or (tm := tm) (x := n) with ⟨u', e2⟩ | e2
              · rw [e1, e2] at hv'
                obtain ⟨w', z', r1, r2, r3, r4⟩ := ust_run (rt := o.type) c cl.argTypes ht0 hu hs (opnd c hx e1) (opnd c hy e2) hv'
                refine ⟨σ, w', z', .value z', ?_, .inl rfl, r2, r3, r4⟩
                simp [execOp, ho, resolve, hcal, hca, invoke, builtin, r1]
              · rw [e1, e2] at hv'; unfold ustV at hv'; split at hv' <;> first | (cases hv'; done) | (cases ‹none = some _›)
            · rw [e1] at hv'; unfold ustV at hv'; split at hv' <;> first | (cases hv'; done) | (cases ‹none = some _›)
          · cases hc
        · cases hc
      · cases hc
    all_goals
      exfalso
      repeat' (split at hc)
      all_goals first
        | (cases hc; done)
        | (cases hc; have hv' : (none : Option (V × Hp)) = some (v, h') := hv; cases hv'; done)
        | (obtain ⟨_, _, e⟩ := map_some hc; cases e; have hv' : (none : Option (V × Hp)) = some (v, h') := hv; cases hv'; done)
  all_goals
    exfalso
    repeat' (split at hc)
    all_goals first
      | (cases hc; done)
      | (cases hc; have hv' : (none : Option (V × Hp)) = some (v, h') := hv; cases hv'; done)
      | (obtain ⟨_, _, e⟩ := map_some hc; cases e; have hv' : (none : Option (V × Hp)) = some (v, h') := hv; cases hv'; done)

end Go.Proofs.YtgnpoaoekhplhaaGreatDoor.AE
namespace Go.Proofs.YtgnpoaoekhplhaaGreatDoor.AE
open Go
variable {P : Program} {w w' : World} {σ σ' : Sg} {tm : Tm} {a : Act} {h h' : Hp}

/-- The fence: everything is let in; in a round or not. -/
def Fd (r : Option Nat) : Fence := { Fence.wide with round := r }

theorem Fd_none : Fd none = Fence.wide := rfl

theorem Calls.toFd {f : FuncId} {args : Array Value} {R : Ending → World → Prop} {r : Option Nat} {n : Nat} (hc : Calls P f args w R) : CallsIn (Fd r) n P f args w R := by
  have h1 : CallsIn Fence.wide n P f args w R := callsIn_wide.2 hc
  exact h1

theorem CallsIn.fromFd {f : FuncId} {args : Array Value} {R : Ending → World → Prop} {r : Option Nat} {n : Nat} (hc : CallsIn (Fd r) n P f args w R) : Calls P f args w R := by
  have h1 : CallsIn Fence.wide n P f args w R := hc
  exact callsIn_wide.1 h1

/-- What a call comes to, whatever kind of call it is. -/
def UponR (P : Program) (res : Result Next) (R : Value → World → Prop) : Prop :=
  match res with
  | .ok (.value x) w' => R x w'
  | .ok (.enter f args) w' => Calls P f args w' fun e w'' => ∃ x, e = .returned x ∧ R x w''
  | .ok (.round l f tmps assign body) w' => ∀ r n, RoundIn (Fd r) n P l f tmps assign body w' fun e w'' => ∃ x, e = .returned x ∧ R x w''
  | _ => False

/-- The state behind a call: the value, the heap. -/
def Post (P : Program) (σ : Sg) (h : Hp) (w : World) (v : V) (h' : Hp) (x : Value) (w' : World) : Prop :=
  ∃ σ', conc σ' v = some x ∧ WR P σ' h' w' ∧ Ext σ h w σ' h' w'

def CallOK (P : Program) (f : Nat) (args : List V) (h : Hp) (v : V) (h' : Hp) : Prop :=
  ∀ σ w xs, WR P σ h w → concs σ args = some xs → UponR P ((callFunc f xs.toArray).run P w) (Post P σ h w v h')

/-- The function has a body: a call of it enters a frame. -/
def Enters (P : Program) (f : Nat) : Prop := ∀ (args : Array Value) (w : World), (callFunc f args).run P w = .ok (.enter f args) w

def YieldOK (P : Program) (l : Nat) (args : List V) (h : Hp) (v : V) (h' : Hp) : Prop :=
  ∀ σ w xs pl, WR P σ h w → concs σ args = some xs → σ l = some pl → UponR P ((Instr.yield pl.blk xs.toArray).run P w) (Post P σ h w v h')

/-- The deferred calls of a frame: the marks of its ranges over functions. -/
def DfRel (σ : Sg) : List Nat → List Deferred → Prop
  | [], [] => True
  | d :: l, x :: m => (∃ pl, σ d = some pl ∧ x = { target := .collected pl.blk, args := #[] }) ∧ DfRel σ l m
  | _, _ => False

theorem DfRel.mono (hl : σ.le σ') : ∀ {l : List Nat} {m : List Deferred}, DfRel σ l m → DfRel σ' l m
  | [], [], h => h
  | d :: l, x :: m, h => ⟨let ⟨pl, a, b⟩ := h.1; ⟨pl, hl _ _ a, b⟩, DfRel.mono hl h.2⟩
  | [], _ :: _, h => h.elim
  | _ :: _, [], h => h.elim

def RdRel (σ : Sg) : Option Nat → Option Nat → Prop
  | none, none => True
  | some l, some b => ∃ pl, σ l = some pl ∧ pl.blk = b
  | _, _ => False
theorem RdRel.mono (hl : σ.le σ') {rd r : Option Nat} (h : RdRel σ rd r) : RdRel σ' rd r := by
  cases rd <;> cases r <;> first | exact h | (obtain ⟨pl, a, b⟩ := h; exact ⟨pl, hl _ _ a, b⟩)

def cExit : Ex → Exit
  | .nor => .normal
  | .ret => .ret
  | .exit id => .exit id

/-- A frame's state. -/
structure SR (P : Program) (σ : Sg) (nt : Nat) (st : St) (w : World) (a : Act) : Prop where
  wr : WR P σ st.h w
  tr : TRel σ st.tm a.tmps
  sz : a.tmps.size = nt
  df : DfRel σ st.df a.defers

/-- What is asked behind code. -/
def QOKd (P : Program) (σ : Sg) (h : Hp) (w : World) (nt : Nat) (x : Ex) (st' : St) (Q : Exit → Act → World → Prop) : Prop :=
  ∀ σ' w' a', SR P σ' nt st' w' a' → Ext σ h w σ' st'.h w' → Q (cExit x) a' w'

def CodeOK (P : Program) (rd : Option Nat) (ac : AC) (st : St) (x : Ex) (st' : St) : Prop :=
  ∀ (c : Code) (nt : Nat), cCode P nt c = some ac → ∀ σ w a r n Q, SR P σ nt st w a → RdRel σ rd r → QOKd P σ st.h w nt x st' Q → c.wpIn (Fd r) n P Q a w

/-- A loop, from the head of a round on. -/
def LoopIn (F : Fence) (n : Nat) (P : Program) (c : Code) (Q : Exit → Act → World → Prop) (a : Act) (w : World) : Prop :=
  ∀ (b : Frame) (k : List Item) (cs : List Frame), b.roundOf = F.round → F.fn b.fn → F.room (cs.length + 1 + n) →
    ∃ e a' w', Q e a' w' ∧ ArrivesIn (Machine.fenced P F) P (lone (b.atR a (.code c :: .inLoop c :: k)) cs w) b k cs e a' w'

def LoopOK (P : Program) (rd : Option Nat) (ab : AC) (st : St) (x : Ex) (st' : St) : Prop :=
  ∀ (c : Code) (nt : Nat), cCode P nt c = some ab → ∀ σ w a r n Q, SR P σ nt st w a → RdRel σ rd r → QOKd P σ st.h w nt x st' Q → LoopIn (Fd r) n P c Q a w

def TaskOK (P : Program) : Task → Res → Prop
  | .loop rd b st, .code x st' => LoopOK P rd b st x st'
  | .call f args h, .val v h' => CallOK P f args h v h' ∧ ((∃ l, V.fy l ∈ args) → Enters P f)
  | .yield l args h, .val v h' => YieldOK P l args h v h'
  | _, _ => True

def RecOK (P : Program) (rec : RecT) : Prop := ∀ t r, rec t = some r → TaskOK P t r

/-! ### One operation -/
theorem not_defer {o : Oper} {ao : AOp} (hc : cOp P o = some ao) : ∀ c, o.op ≠ .defer c := by
  intro c e
  unfold cOp at hc
  rw [e] at hc
  cases hc

theorem upon_of {o : Oper} {r : Option Nat} {n : Nat} {next : Act → World → Prop} {Q : Exit → Act → World → Prop} {res : Result Next} {R : Value → World → Prop}
    (hu : UponR P res R) (hn : ∀ x w', R x w' → next (a.put o.dst x) w') : o.uponIn (Fd r) n P a next Q res := by
  unfold UponR at hu
  split at hu
  · exact hn _ _ hu
  · refine ⟨fun hd => (by cases hd), Calls.toFd (hu.mono ?_)⟩
    rintro e w'' ⟨x, rfl, hR⟩
    exact hn _ _ hR
  · refine ⟨fun hd => (by cases hd), (hu r (n - 1)).mono ?_⟩
    rintro e w'' ⟨x, rfl, hR⟩
    exact hn _ _ hR
  · exact hu.elim

theorem evs_some (c : Cx P σ tm h w a) {l : Array Operand} {ys : List AO} (hc : cOpnds P l = some ys) {vs : List V} (hv : evs ys tm = some vs) : concs σ vs = some (l.map a.eval).toList := opnds c hc hv

theorem resO_some {x : Option Res} {v : V} (e : resO x = some (v, h')) : x = some (.val v h') := by
  unfold resO at e
  split at e
  · cases e; rfl
  · cases e

theorem toArr {α : Type} (l : Array α) : l.toList.toArray = l := by simp
theorem toArr3 {α : Type} (x z : List α) (l : Array α) : (x ++ l.toList ++ z).toArray = x.toArray ++ l ++ z.toArray := by
  apply Array.toList_inj.1; simp
theorem kindOf_cases (ao : AOp) : kindOf ao = 0 ∨ kindOf ao = 1 ∨ kindOf ao = 2 := by
  unfold kindOf
  split <;> simp

theorem fev_sound {rec : RecT} (hrec : RecOK P rec) (c : Cx P σ tm h w a) {o : Oper} {ao : AOp} (hc : cOp P o = some ao) {v : V} (hv : fev ao rec tm h = some (v, h')) :
    (∃ R, UponR P ((execOp a.eval o).run P w) R ∧ ∀ x w', R x w' → Post P σ h w v h' x w') ∨ EOK P σ h w (execOp a.eval o) v h' := by
  by_cases hcall : (∃ f args, ao = .call f args) ∨ ∃ x args, ao = .cav x args
  · left
    refine ⟨_, ?_, fun x w' hx => hx⟩
    have hc0 := hc
    unfold cOp at hc
    split at hc
    case h_22 =>
      next cl ho =>
      split at hc
      · cases hc
      next args hargs =>
      split at hc
      case h_1 =>
        next f hcal =>
        cases hc
        have hv' : callF f (evs args tm) rec h = some (v, h') := hv
        unfold callF at hv'
        split at hv'
        · next rc h0 vs e1 =>
          have := hrec _ _ (resO_some hv')
          have hx := opnds c hargs e1
          have hr := this.1 σ w _ c.wr hx
          have hexec : execOp a.eval o = callFunc f (cl.args.map a.eval).toList.toArray := by
            rw [toArr]; simp [execOp, ho, resolve, hcal, Deferred.ofValue, Act.eval, invoke]
          rw [hexec]; exact hr
        · cases hv'
      case h_2 =>
        next x hnf hcal =>
        obtain ⟨y, hy, rfl⟩ := map_some hc
        have hv' : callV (y.ev tm) (evs args tm) rec h = some (v, h') := hv
        unfold callV at hv'
        split at hv'
        · next rc h0 f first caps vs e1 e2 =>
          have := hrec _ _ (resO_some hv')
          have hx := opnd c hy e1
          obtain ⟨xa, xc, q1, q2, hxe⟩ := conc_fn_inv hx
          have hargs' := opnds c hargs e2
          have hr := this.1 σ w _ c.wr (concs_append (concs_append q1 hargs') q2)
          have hexec : execOp a.eval o = callFunc f (xa ++ (cl.args.map a.eval).toList ++ xc).toArray := by
            rw [toArr3]; simp [execOp, ho, resolve, hcal, hxe, Deferred.ofValue, invoke]
          rw [hexec]; exact hr
        · next rc h0 l vs e1 e2 =>
          have := hrec _ _ (resO_some hv')
          have hx := opnd c hy e1
          obtain ⟨pl, q1, hxe⟩ := conc_fy_inv hx
          have hargs' := opnds c hargs e2
          have hr := this σ w _ pl c.wr hargs' q1
          have hexec : execOp a.eval o = Instr.yield pl.blk (cl.args.map a.eval).toList.toArray := by
            rw [toArr]; simp [execOp, ho, resolve, hcal, hxe, Deferred.ofValue, invoke]
          rw [hexec]; exact hr
        · cases hv'
      all_goals
        exfalso
        repeat' (split at hc)
        all_goals first
          | (cases hc; done)
          | (cases hc; rcases hcall with ⟨_, _, e⟩ | ⟨_, _, e⟩ <;> cases e; done)
          | (obtain ⟨_, _, e'⟩ := map_some hc; cases e'; rcases hcall with ⟨_, _, e⟩ | ⟨_, _, e⟩ <;> cases e; done)
    all_goals
      exfalso
      repeat' (split at hc)
      all_goals first
        | (cases hc; done)
        | (cases hc; rcases hcall with ⟨_, _, e⟩ | ⟨_, _, e⟩ <;> cases e; done)
        | (obtain ⟨_, _, e'⟩ := map_some hc; cases e'; rcases hcall with ⟨_, _, e⟩ | ⟨_, _, e⟩ <;> cases e; done)
  · right
    refine eev_sound c hc ?_
    cases ao <;> first | exact hv | (exact absurd (.inl ⟨_, _, rfl⟩) hcall) | (exact absurd (.inr ⟨_, _, rfl⟩) hcall)

/-- Any operation, met in its turn. -/
theorem oev_sound {rec : RecT} (hrec : RecOK P rec) (c : Cx P σ tm h w a) {o : Oper} {ao : AOp} (hc : cOp P o = some ao) {v : V} (hv : oev ao rec tm h = some (v, h'))
    {r : Option Nat} {n : Nat} {next : Act → World → Prop} {Q : Exit → Act → World → Prop} (hn : ∀ x w', Post P σ h w v h' x w' → next (a.put o.dst x) w') : o.wpIn (Fd r) n P a w next Q := by
  refine ⟨fun _ _ => trivial, ?_⟩
  rw [Oper.semAt_eq _ _ _ (not_defer hc)]
  have heok : EOK P σ h w (execOp a.eval o) v h' → o.uponIn (Fd r) n P a next Q ((execOp a.eval o).run P w) := by
    rintro ⟨σ', w', x, rs, h1, h2, h3, h4, h5⟩
    rw [h1]
    rcases h2 with rfl | ⟨rfl, rfl⟩
    · exact hn _ _ ⟨σ', h3, h4, h5⟩
    · exact hn _ _ ⟨σ', h3, h4, h5⟩
  rcases kindOf_cases ao with hk | hk | hk
  · simp only [oev, hk] at hv
    unfold retQ at hv
    split at hv
    · next v0 h0 e =>
      cases hv
      obtain ⟨x, h1, h2⟩ := qev_sound c hc hk e
      rw [h2]
      exact hn _ _ ⟨σ, h1, c.wr, Ext.refl _ _ _⟩
    · cases hv
  · simp only [oev, hk] at hv
    unfold retA at hv
    split at hv
    · next h0 ob mk e =>
      cases hv
      obtain ⟨C, ty, cs, x, rfl, h2, h3, h4⟩ := (aev_sound c hc e).out
      rw [h3]
      have hle := Sg.le_up (σ := σ) (⟨w.heap.size, 0, 0, 1⟩ : Pl) (c.wr.dom _ (Nat.le_refl _))
      obtain ⟨r1, r2⟩ := c.wr.alloc (w' := w.alloc (.cells C ty)) (o := .c cs ty none false false 0) (pl := ⟨w.heap.size, 0, 0, 1⟩) (obj := .cells C ty) rfl rfl ⟨rfl, rfl, rfl⟩
        ⟨C, 0, 0, by show (w.heap.push _)[w.heap.size]? = _; simp, fun i u hu => (by
          obtain ⟨y, q1, q2⟩ := concs_get h2 hu
          exact ⟨y, conc_mono hle _ _ q1, by rw [Nat.zero_add]; simpa using q2⟩), fun _ j _ _ hh => by omega, fun _ _ => .inl rfl, rfl, by have := concs_length h2; simpa using this⟩
      exact hn _ _ ⟨_, h4 _ _ (Sg.up_same _ _ _), r1, r2⟩
    · cases hv
  · simp only [oev, hk] at hv
    rcases fev_sound hrec c hc hv with ⟨R, h1, h2⟩ | h1
    · exact upon_of h1 (fun x w' hx => hn _ _ (h2 _ _ hx))
    · exact heok h1

end Go.Proofs.YtgnpoaoekhplhaaGreatDoor.AE
namespace Go.Proofs.YtgnpoaoekhplhaaGreatDoor.AE
open Go
variable {P : Program} {w w' : World} {σ σ' : Sg} {tm : Tm} {a : Act} {h h' : Hp}

theorem cOper_some {nt : Nat} {ops : Array Oper} {lo hi : Nat} {o : Oper} {x : AOper} (hc : cOper P nt ops lo hi o = some x) :
    cOp P o = some x.op ∧ gdOf ops o = some x.gd ∧ x.dst = o.dst ∧ (∀ d, o.dst = some d → d < nt) ∧ x.lo = lo ∧ x.hi = hi := by
  unfold cOper at hc
  split at hc
  · next ao g h1 h2 =>
    split at hc
    · next hd =>
      cases hc
      refine ⟨h1, h2, rfl, fun d hd' => ?_, rfl, rfl⟩
      rw [hd'] at hd
      exact Nat.le_of_ble_eq_true hd
    · cases hc
  · cases hc

theorem wanted_run {ops : Array Oper} {o : Oper} {g : Option (Nat × Bool)} (hg : gdOf ops o = some g) {b : Bool} (hw : wanted g tm = some b) (ht : TRel σ tm a.tmps) :
    Region.wanted o (yielded ops a.tmps) = b := by
  unfold gdOf at hg
  split at hg
  · next hn =>
    cases hg
    simp only [wanted] at hw; cases hw
    simp [Region.wanted, hn]
  · next j want hj =>
    split at hg
    · next p hp =>
      split at hg
      · next t ht' =>
        cases hg
        simp only [wanted] at hw
        unfold wantV at hw
        split at hw
        · next x e =>
          cases hw
          obtain ⟨z, h1, h2⟩ := ht _ _ e
          simp only [conc] at h1; cases h1
          simp only [Region.wanted, hj, yielded, hp, ht', Option.bind_some, h2]
          cases want <;> cases x <;> rfl
        · next e =>
          cases hw
          obtain ⟨z, h1, h2⟩ := ht _ _ e
          obtain ⟨xs, h3, rfl⟩ := conc_tu_inv h1
          simp only [Region.wanted, hj, yielded, hp, ht', Option.bind_some, h2]
          rfl
        · cases hw
      · cases hg
    · cases hg

theorem puts_rel {d : Option Nat} {v : V} {x : Value} {nt : Nat} (ht : TRel σ tm a.tmps) (hs : a.tmps.size = nt) (hd : ∀ k, d = some k → k < nt) (hv : conc σ v = some x) :
    TRel σ (Tm.puts d tm v) (a.put d x).tmps ∧ (a.put d x).tmps.size = nt ∧ (a.put d x).defers = a.defers := by
  cases d with
  | none => exact ⟨ht, hs, rfl⟩
  | some k =>
    exact ⟨ht.set (by rw [hs]; exact hd k rfl) hv, by simp [Act.put, hs], rfl⟩

/-- A guarded operation, met in its turn. -/
theorem gev_sound {rec : RecT} (hrec : RecOK P rec) (c : Cx P σ tm h w a) {nt : Nat} (hs : a.tmps.size = nt) {ops : Array Oper} {lo hi : Nat} {o : Oper} {x : AOper} (hc : cOper P nt ops lo hi o = some x) {v : V}
    (hv : gev x rec tm h = some (v, h')) {r : Option Nat} {n : Nat} {next : Act → World → Prop} {Q : Exit → Act → World → Prop}
    (hn : ∀ σ' a' w', WR P σ' h' w' → Ext σ h w σ' h' w' → TRel σ' (Tm.puts x.dst tm v) a'.tmps → a'.tmps.size = nt → a'.defers = a.defers → next a' w') :
    if Region.wanted o (yielded ops a.tmps) then o.wpIn (Fd r) n P a w next Q else (∀ f, o.about P w a.eval = some f → (Fd r).fn f) ∧ next (a.put o.dst undef) w := by
  obtain ⟨c1, c2, c3, c4, _, _⟩ := cOper_some hc
  have hrun : oev x.op rec tm h = some (v, h') → o.wpIn (Fd r) n P a w next Q := by
    intro hv'
    refine oev_sound hrec c c1 hv' (fun y w' hp => ?_)
    obtain ⟨σ', p1, p2, p3⟩ := hp
    obtain ⟨q1, q2, q3⟩ := puts_rel (a := a) (c.tr.mono p3.le) hs c4 p1
    rw [← c3] at q1 q2 q3 ⊢
    exact hn _ _ _ p2 p3 q1 q2 q3
  cases hg : x.gd with
  | none =>
    rw [hg] at c2
    have hw : Region.wanted o (yielded ops a.tmps) = true := wanted_run c2 (tm := tm) rfl c.tr
    rw [if_pos hw]
    exact hrun (by simpa only [gev, hg] using hv)
  | some g =>
    have hv' : ifWanted (wanted (some g) tm) (oev x.op rec tm h) h = some (v, h') := by simpa only [gev, hg] using hv
    rw [hg] at c2
    unfold ifWanted at hv'
    split at hv'
    · next r0 h0 e =>
      rw [if_pos (wanted_run c2 e c.tr)]
      exact hrun hv'
    · next r0 h0 e =>
      cases hv'
      rw [if_neg (by rw [wanted_run c2 e c.tr]; simp)]
      refine ⟨fun _ _ => trivial, ?_⟩
      obtain ⟨q1, q2, q3⟩ := puts_rel (a := a) (v := .tu []) (x := undef) c.tr hs c4 rfl
      rw [← c3] at q1 q2 q3 ⊢
      exact hn σ _ _ c.wr (Ext.refl _ _ _) q1 q2 q3
    · cases hv'

theorem runOps_nil (rec : RecT) (tm : Tm) (h : Hp) : runOps [] rec tm h = some (tm, h) := rfl
theorem runOps_cons (o : AOper) (l : List AOper) (rec : RecT) (tm : Tm) (h : Hp) : runOps (o :: l) rec tm h = thenO (gev o rec tm h) fun v h => runOps l rec (Tm.puts o.dst tm v) h := rfl

theorem thenO_some {α : Type} {x : Option (V × Hp)} {k : V → Hp → Option α} {y : α} (e : thenO x k = some y) : ∃ v h, x = some (v, h) ∧ k v h = some y := by
  unfold thenO at e
  split at e
  · exact ⟨_, _, rfl, e⟩
  · cases e

theorem runOps_sound {rec : RecT} (hrec : RecOK P rec) {nt : Nat} {ops : Array Oper} {r : Option Nat} {n : Nat} {Q : Exit → Act → World → Prop} : ∀ (k i : Nat) (l : List AOper) (tm : Tm) (h : Hp) (tm' : Tm) (h' : Hp) (σ : Sg) (w : World) (a : Act),
    i + k = ops.size → cOps P nt ops (ops.toList.drop i) = some l → runOps l rec tm h = some (tm', h') → Cx P σ tm h w a → a.tmps.size = nt →
    (∀ σ' w' a', WR P σ' h' w' → Ext σ h w σ' h' w' → TRel σ' tm' a'.tmps → a'.tmps.size = nt → a'.defers = a.defers → Q .normal a' w') →
    wpOpsIn (Fd r) n P ops Q (List.range' i k) a w := by
  intro k
  induction k with
  | zero =>
    intro i l tm h tm' h' σ w a hik hc hr c hs hQ
    have hd : ops.toList.drop i = [] := List.drop_eq_nil_of_le (by simp; omega)
    rw [hd] at hc
    simp only [cOps] at hc; cases hc
    rw [runOps_nil] at hr; cases hr
    exact hQ σ w a c.wr (Ext.refl _ _ _) c.tr hs rfl
  | succ k ih =>
    intro i l tm h tm' h' σ w a hik hc hr c hs hQ
    have hi : i < ops.size := by omega
    have hd : ops.toList.drop i = ops[i] :: ops.toList.drop (i + 1) := by
      rw [List.drop_eq_getElem_cons (by simpa using hi)]; simp
    rw [hd] at hc
    simp only [cOps] at hc
    split at hc
    · next x rest hx hrest =>
      cases hc
      rw [runOps_cons] at hr
      obtain ⟨v, h1, e1, e2⟩ := thenO_some hr
      rw [List.range'_succ]
      simp only [wpOpsIn, Array.getElem?_eq_getElem hi]
      refine gev_sound hrec c hs hx e1 (fun σ1 a1 w1 q1 q2 q3 q4 q5 => ?_)
      refine ih (i + 1) rest _ h1 tm' h' σ1 w1 a1 (by omega) hrest e2 ⟨q1, q3⟩ q4 (fun σ' w' a' p1 p2 p3 p4 p5 => ?_)
      exact hQ σ' w' a' p1 (q2.trans p2) p3 p4 (p5.trans q5)
    · cases hc

end Go.Proofs.YtgnpoaoekhplhaaGreatDoor.AE
