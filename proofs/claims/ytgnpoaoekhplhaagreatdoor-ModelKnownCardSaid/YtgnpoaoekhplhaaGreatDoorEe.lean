/- A part of the proof that croupierlaw11.ModelKnown returns true (its last text says so). No condition of its own. -/
import Derived.Test.YtgnpoaoekhplhaaGreatDoorEd
import Derived.RangeFuncNested
import Derived.RangeFuncRecord
import Derived.RowKit3
import Derived.Lib.Bytealg
import Derived.Lib.Builder
set_option linter.unusedVariables false
set_option linter.unusedSimpArgs false
set_option linter.unusedSectionVars false
namespace Go.Proofs.YtgnpoaoekhplhaaGreatDoor.AE
open Go
variable {P : Program} {w w' : World} {σ σ' : Sg} {tm : Tm} {a : Act} {h h' : Hp}

theorem WR.killput (hw : WR P σ h w) {id : Nat} {o : O} {pl : Pl} (ho : h.get id = some o) (hp : σ id = some pl) (hro : o.ro = false)
    (hkeep : ∀ b, b ≠ pl.blk → w'.heap[b]? = w.heap[b]?) (hsz : w'.heap.size = w.heap.size) (hc : Calm w w') :
    WR P σ (h.kill id) w' ∧ Ext σ h w σ (h.kill id) w' := by
  have hx : ∀ j oj, (h.kill id).get j = some oj → j ≠ id ∧ h.get j = some oj := by
    intro j oj hj
    rw [Hp.get_kill] at hj
    split at hj
    · cases hj
    · next e => exact ⟨e, hj⟩
  refine ⟨⟨fun j oj hj => ?_, fun j j' o1 o2 p1 p2 h1 h2 hr => hw.inj _ _ _ _ _ _ (hx _ _ h1).2 (hx _ _ h2).2 hr, hw.dom, hw.glob⟩,
    ⟨Sg.le_refl _, by omega, fun b hb hnw => ?_, fun b hb hwr => ?_, fun b hb hwr => ?_, Nat.le_refl _, fun _ _ => rfl, hc.tape, hc.os, hc.output⟩⟩
  · obtain ⟨hne, hj⟩ := hx _ _ hj
    obtain ⟨p', a1, a2⟩ := hw.blk _ _ hj
    exact ⟨p', a1, a2.mono (Sg.le_refl _) (hkeep _ (fun e => hne (hw.inj _ _ _ _ _ _ ho hj hro hp a1 e.symm).symm))⟩
  · exact hkeep b (fun e => hnw ⟨id, o, pl, ho, hro, hp, e.symm⟩)
  · obtain ⟨j, oj, pj, h1, h2, h3, h4⟩ := hwr
    exact ⟨j, oj, pj, (hx _ _ h1).2, h2, h3, h4⟩
  · obtain ⟨j, oj, pj, h1, h3, h4⟩ := hwr
    exact ⟨j, oj, pj, (hx _ _ h1).2, h3, h4⟩

theorem putObj_other (w : World) (l : Nat) (o : Obj) (b : Nat) (hb : b ≠ l) : (w.putObj l o).heap[b]? = w.heap[b]? := World.putObj_heap_other hb
theorem putObj_size (w : World) (l : Nat) (o : Obj) : (w.putObj l o).heap.size = w.heap.size := by simp [World.putObj]
theorem putObj_calm (w : World) (l : Nat) (o : Obj) : Calm w (w.putObj l o) := ⟨rfl, rfl, rfl⟩

theorem Calls.ofUpon {f : FuncId} {args : Array Value} {R : Value → World → Prop} (he : Enters P f) (hu : UponR P ((callFunc f args).run P w) R) :
    Calls P f args w fun e w'' => ∃ x, e = .returned x ∧ R x w'' := by
  rw [he args w] at hu
  exact hu

theorem jump_wp {x : Ex} {F : Fence} {n : Nat} {Q : Exit → Act → World → Prop} {a : Act} {w : World} (h : Q (cExit x) a w) :
    match cEx x with | none => Q .normal a w | some c => c.wpIn F n P Q a w := by
  cases x with
  | nor => exact h
  | ret => exact wpIn_ret h
  | exit id => exact wpIn_exit h

theorem rf_core {rec : RecT} (hrec : RecOK P rec) {nt d fi fn m n : Nat} {r : Option Nat} {pd : Pl} {params : Array Tmp} {assign body : Code} {xa ya : AC} {df : List Nat} {a' : Act}
    {first caps : List V} {v : V} {h1 : Hp} {x : Ex} {st' : St} {Q : Exit → Act → World → Prop} {xf xc : List Value}
    (hw : WR P σ h w) (ht : TRel σ tm a'.tmps) (hsz : a'.tmps.size = nt) (hdf : DfRel σ df a'.defers) (hd : σ d = some pd)
    (h2 : cCode P nt assign = some xa) (h3 : cCode P nt body = some ya) (hps : ∀ p ∈ params.toList, p < nt)
    (hcall : rec (.call fi (first ++ [.fy h.nx] ++ caps) (h.add (.l .ready none tm params.toList xa ya d))) = some (.val v h1))
    (hend : rfEnd h.nx tm df h1 = some (.code x st'))
    (q1 : concs σ first = some xf) (q2 : concs σ caps = some xc)
    (hQ : QOKd P σ h w nt x st' Q) :
    Enters P fi ∧ CallsIn (Fd r) m P fi (xf ++ [Value.func (.yield w.heap.size) #[] #[]] ++ xc).toArray
      (w.alloc (.loop { state := .ready, pending := none, fn := fn, tmps := a'.tmps, params := params, assign := assign, body := body, defers := pd.blk })) (rangePost (Fd r) n P w.heap.size Q a') := by
  have hle := Sg.le_up (σ := σ) (⟨w.heap.size, 0, 0, 1⟩ : Pl) (hw.dom _ (Nat.le_refl _))
  obtain ⟨r1, r2⟩ := hw.alloc (w' := w.alloc (.loop { state := .ready, pending := none, fn := fn, tmps := a'.tmps, params := params, assign := assign, body := body, defers := pd.blk }))
    (o := .l .ready none tm params.toList xa ya d) (pl := ⟨w.heap.size, 0, 0, 1⟩)
    (obj := .loop { state := .ready, pending := none, fn := fn, tmps := a'.tmps, params := params, assign := assign, body := body, defers := pd.blk }) rfl rfl ⟨rfl, rfl, rfl⟩
    ⟨_, nt, pd, World.alloc_heap_new _ _, rfl, rfl, ht.mono hle, hsz, rfl, h2, h3, hps, hle _ _ hd, rfl⟩
  obtain ⟨hok, hent⟩ := hrec _ _ hcall
  have hE := hent ⟨h.nx, by simp⟩
  refine ⟨hE, ?_⟩
  have hx : concs (σ.up h.nx ⟨w.heap.size, 0, 0, 1⟩) (first ++ [.fy h.nx] ++ caps) = some (xf ++ [Value.func (.yield w.heap.size) #[] #[]] ++ xc) :=
    concs_append (concs_append (concs_mono hle _ _ q1) (by simp [concs, conc, Sg.up_same])) (concs_mono hle _ _ q2)
  refine (Calls.toFd (Calls.ofUpon hE (hok _ _ _ r1 hx))).mono ?_
  rintro e w2 ⟨x2, rfl, σ2, _, s1, s2⟩
  have hl2 : σ2 h.nx = some ⟨w.heap.size, 0, 0, 1⟩ := s2.le _ _ (Sg.up_same _ _ _)
  have key : ∃ ls pend tm' ps' a1 b1 d1, h1.get h.nx = some (.l ls pend tm' ps' a1 b1 d1) ∧ ls ≠ .busy ∧ st' = ⟨tm, df, h1.kill h.nx⟩ ∧ (pend = some x ∨ (pend = none ∧ x = .nor)) := by
    unfold rfEnd at hend
    split at hend
    · next e => cases hend; exact ⟨_, _, _, _, _, _, _, e, by simp, rfl, .inr ⟨rfl, rfl⟩⟩
    · next e => cases hend; exact ⟨_, _, _, _, _, _, _, e, by simp, rfl, .inl rfl⟩
    · next e => cases hend; exact ⟨_, _, _, _, _, _, _, e, by simp, rfl, .inr ⟨rfl, rfl⟩⟩
    · next e => cases hend; exact ⟨_, _, _, _, _, _, _, e, by simp, rfl, .inl rfl⟩
    · cases hend
  obtain ⟨ls, pend, tm', ps', a1, b1, d1, hg, hnb, rfl, hp⟩ := key
  obtain ⟨pl', hpl', hb⟩ := s1.blk _ _ hg
  rw [hl2] at hpl'; cases hpl'
  obtain ⟨lr, nt', pd', hheap, hst, hpend, _⟩ := hb
  have hne : lr.state ≠ .busy := by rw [hst]; cases ls <;> simp_all [cLS]
  obtain ⟨k1, k2⟩ := s1.killput (w' := w2.putObj w.heap.size (.loop { lr with state := .exhausted })) hg hl2 rfl (fun b hb => putObj_other _ _ _ _ hb) (putObj_size _ _ _) (putObj_calm _ _ _)
  have hE := (r2.trans (s2.trans k2))
  have hfin := hQ σ2 _ a' ⟨k1, ht.mono hE.le, hsz, hdf.mono hE.le⟩ hE
  refine ⟨_, _, run_endLoop hheap hne, ?_⟩
  generalize w2.putObj w.heap.size (.loop { lr with state := .exhausted }) = w3 at hfin
  rw [hpend]
  rcases hp with rfl | ⟨rfl, rfl⟩
  · exact jump_wp hfin
  · exact hfin

theorem rf_sound {rec : RecT} (hrec : RecOK P rec) {f : AO} {ps : List Nat} {xa ya : AC} {rd : Option Nat} {st : St} {x : Ex} {st' : St}
    (hv : rfGo ps xa ya rec st (f.ev st.tm) (rfDf rd st) = some (.code x st')) {g : Operand} {params : Array Tmp} {assign body : Code} {nt : Nat}
    (hg : cOpnd P g = some f) (h2 : cCode P nt assign = some xa) (h3 : cCode P nt body = some ya) (hps : ∀ p ∈ params.toList, p < nt) (hpe : ps = params.toList)
    {σ : Sg} {w : World} {a : Act} {r : Option Nat} {n : Nat} {Q : Exit → Act → World → Prop} (hs : SR P σ nt st w a) (hrd : RdRel σ rd r) (hQ : QOKd P σ st.h w nt x st' Q) :
    (Code.rangeFunc g params assign body).wpIn (Fd r) n P Q a w := by
  subst hpe
  refine wpIn_rangeFunc fun fn _ => ?_
  unfold rfGo at hv
  split at hv
  next fi first caps d hd df e1 e2 =>
    have hx := opnd ⟨hs.wr, hs.tr⟩ hg e1
    obtain ⟨xf, xc, q1, q2, hxe⟩ := conc_fn_inv hx
    have hres : ∀ (l : Nat) (W : World), (resolve a.eval (rangeCall g l) 0).run P W = .ok { target := .fn (.func fi) xc.toArray, args := xf.toArray ++ #[.func (.yield l) #[] #[]] } W := by
      intro l W
      have : resolve a.eval (rangeCall g l) 0 = Deferred.ofValue (a.eval g) #[.func (.yield l) #[] #[]] := by simp [resolve, rangeCall, Act.eval]
      rw [this, hxe]; rfl
    have hargs : ∀ l : Nat, (xf ++ [Value.func (.yield l) #[] #[]] ++ xc).toArray = (xf.toArray ++ #[.func (.yield l) #[] #[]]) ++ xc.toArray := by
      intro l; apply Array.toList_inj.1; simp
    unfold rfO at hv
    split at hv
    next v h1 ec =>
      unfold rfDf at e2
      split at e2
      · cases e2
        cases r with
        | some b => exact hrd.elim
        | none =>
          have hle := Sg.le_up (σ := σ) (⟨w.heap.size, 0, 0, 1⟩ : Pl) (hs.wr.dom _ (Nat.le_refl _))
          obtain ⟨r1, r2⟩ := hs.wr.alloc (w' := w.alloc (.deferred (some []))) (o := .d) (pl := ⟨w.heap.size, 0, 0, 1⟩) (obj := .deferred (some [])) rfl rfl ⟨rfl, rfl, rfl⟩ (World.alloc_heap_new _ _)
          obtain ⟨hE, hC⟩ := rf_core (m := n - 1) (n := n) (fn := fn) (r := none) (Q := Q) (a' := { a with defers := [{ target := .collected w.heap.size, args := #[] }] ++ a.defers })
            hrec r1 (hs.tr.mono hle) hs.sz (show DfRel _ (st.h.nx :: st.df) _ from ⟨⟨_, Sg.up_same _ _ _, rfl⟩, hs.df.mono hle⟩) (Sg.up_same _ _ _) h2 h3 hps ec hv (concs_mono hle _ _ q1) (concs_mono hle _ _ q2)
            (fun σ2 w2 a2 p1 p2 => hQ σ2 w2 a2 p1 (r2.trans p2))
          rw [World.size_alloc] at hC
          refine ⟨_, _, _, _, _, _, _, _, run_enterLoop_outer _ _ _ _ _, hres _ _, fun f' _ => trivial, ?_, fun hh => (by cases hh), hC⟩
          rw [hargs]; exact hE _ _
      · next l0 =>
        split at e2
        · next hl =>
          cases e2
          cases r with
          | none => exact hrd.elim
          | some b =>
            obtain ⟨pl0, hp0, rfl⟩ := hrd
            obtain ⟨pl0', hp0', hb⟩ := hs.wr.blk _ _ hl
            rw [hp0] at hp0'; cases hp0'
            obtain ⟨lr, nt', pd, hheap, _, _, _, _, _, _, _, _, hsd, hdd⟩ := hb
            obtain ⟨hE, hC⟩ := rf_core (m := n - 1) (n := n) (fn := fn) (r := some pl0.blk) (Q := Q) (a' := { a with defers := [] ++ a.defers })
              hrec hs.wr hs.tr hs.sz hs.df hsd h2 h3 hps ec hv q1 q2 hQ
            rw [← hdd] at hC
            refine ⟨_, _, _, _, _, _, _, _, run_enterLoop_inner hheap _ _ _ _ _, hres _ _, fun f' _ => trivial, ?_, fun hh => (by cases hh), hC⟩
            rw [hargs]; exact hE _ _
        · cases e2
    next => cases hv
  next => cases hv
end Go.Proofs.YtgnpoaoekhplhaaGreatDoor.AE
namespace Go.Proofs.YtgnpoaoekhplhaaGreatDoor.AE
open Go
variable {P : Program} {w w' : World} {σ σ' : Sg} {tm : Tm} {a : Act} {h h' : Hp}

/-! ### Scopes and loops in any frame -/
section steps
variable {b : Frame} {k : List Item} {cs : List Frame} {F : Fence} {n : Nat} {Q : Exit → Act → World → Prop}
theorem stepR_scope {c : Code} : Go.step P (lone (b.atR a (.code (.scope c) :: k)) cs w) = Stepped.next (lone (b.atR a (.code c :: .inScope c :: k)) cs w) :=
  step_lone_go (by simp [stepG, stepG.exec, Frame.atR])
theorem stepR_inScope {c : Code} : Go.step P (lone (b.atR a (.inScope c :: k)) cs w) = Stepped.next (lone (b.atR a k) cs w) :=
  step_lone_go (by simp [stepG, stepG.exec, Frame.atR])

theorem wpIn_scope {c : Code} (h : c.wpIn F n P (Exit.noGoto Q) a w) : (Code.scope c).wpIn F n P Q a w := by
  intro b k cs hro hb hr
  have h0 : (lone (b.atR a (.code (.scope c) :: k)) cs w).fenced P F := fenced_calm hb hr rfl
  obtain ⟨e, a₁, w₁, hq, harr⟩ := h b (.inScope c :: k) cs hro hb hr
  cases e with
  | normal => exact ⟨.normal, a₁, w₁, hq, .head h0 stepR_scope (StepsIn.trans harr (.one (fenced_calm hb hr rfl) stepR_inScope))⟩
  | exit id =>
    have hx : exitTo id (.inScope c :: k) = exitTo id k := by simp [exitTo]
    exact ⟨.exit id, a₁, w₁, hq, fun k' hk => .head h0 stepR_scope (harr.1 k' (by rw [hx]; exact hk)),
      fun hr' hk => let ⟨k₁, h1, h2⟩ := harr.2 hr' (by rw [hx]; exact hk); ⟨k₁, h1, .head h0 stepR_scope h2⟩⟩
  | goto l => exact hq.elim
  | ret => exact ⟨_, a₁, w₁, hq, .of_steps (.one h0 stepR_scope) harr⟩
  | panic ch => exact ⟨_, a₁, w₁, hq, .of_steps (.one h0 stepR_scope) harr⟩
  | outgrown => exact ⟨_, a₁, w₁, hq, .of_steps (.one h0 stepR_scope) harr⟩

theorem loopIn_wp {c : Code} (h : LoopIn F n P c Q a w) : (Code.loop c).wpIn F n P Q a w := by
  intro b k cs hro hb hr
  obtain ⟨e, a', w', hq, harr⟩ := h b k cs hro hb hr
  exact ⟨e, a', w', hq, .of_steps (.one (fenced_calm hb hr rfl) stepR_loop) harr⟩

theorem loopIn_body {c : Code} (h : c.wpIn F n P (Exit.then (fun a' w' => LoopIn F n P c Q a' w') Q) a w) : LoopIn F n P c Q a w := by
  intro b k cs hro hb hr
  obtain ⟨e, a₁, w₁, hq, harr⟩ := h b (.inLoop c :: k) cs hro hb hr
  cases e with
  | normal =>
    obtain ⟨e₂, a₂, w₂, hq₂, harr₂⟩ := hq b k cs hro hb hr
    exact ⟨e₂, a₂, w₂, hq₂, .of_steps (StepsIn.trans harr (.one (fenced_calm hb hr rfl) stepR_inLoop)) harr₂⟩
  | exit id => exact ⟨_, a₁, w₁, hq, .pass (x := .inLoop c) rfl (fun _ _ => .inl (by simp)) harr⟩
  | goto l => exact ⟨_, a₁, w₁, hq, .pass (x := .inLoop c) rfl (fun _ _ => .inl (by simp)) harr⟩
  | ret => exact ⟨_, a₁, w₁, hq, .pass (x := .inLoop c) rfl (fun _ _ => .inl (by simp)) harr⟩
  | panic ch => exact ⟨_, a₁, w₁, hq, .pass (x := .inLoop c) rfl (fun _ _ => .inl (by simp)) harr⟩
  | outgrown => exact ⟨_, a₁, w₁, hq, .pass (x := .inLoop c) rfl (fun _ _ => .inl (by simp)) harr⟩
end steps

/-! ### Code -/
theorem cCode_inv {nt : Nat} {c : Code} {ac : AC} (hc : cCode P nt c = some ac) : ac ≠ .bad →
    ((c = .skip ∨ ∃ l, c = .label l) ∧ ac = .skip) ∨
    (∃ id ops draw, c = .region id ops draw ∧ cReg P nt ops draw = some ac) ∨
    (∃ x y x' y', c = .seq x y ∧ cCode P nt x = some x' ∧ cCode P nt y = some y' ∧ ac = .seq x' y') ∨
    (∃ z x y z' x' y', c = .cond z x y ∧ cOpnd P z = some z' ∧ cCode P nt x = some x' ∧ cCode P nt y = some y' ∧ ac = .cond z' x' y') ∨
    (∃ id x x', c = .block id x ∧ cCode P nt x = some x' ∧ ac = .blk id x') ∨
    (∃ x x', c = .loop x ∧ cCode P nt x = some x' ∧ ac = .loop x') ∨
    (∃ x x', c = .scope x ∧ cCode P nt x = some x' ∧ ac = .scp x') ∨
    (∃ f ps x y f' x' y', c = .rangeFunc f ps x y ∧ cOpnd P f = some f' ∧ cCode P nt x = some x' ∧ cCode P nt y = some y' ∧ (∀ p ∈ ps.toList, p < nt) ∧ ac = .rf f' ps.toList x' y') ∨
    (∃ id, c = .exit id ∧ ac = .exit id) ∨ (c = .ret ∧ ac = .ret) := by
  intro hbad
  cases c <;> simp only [cCode] at hc
  case skip => cases hc; exact .inl ⟨.inl rfl, rfl⟩
  case label l => cases hc; exact .inl ⟨.inr ⟨l, rfl⟩, rfl⟩
  case region id ops draw =>
    split at hc
    · next x hx => cases hc; exact .inr (.inl ⟨id, ops, draw, rfl, hx⟩)
    · cases hc; exact absurd rfl hbad
  case seq x y =>
    split at hc
    · next x' y' hx hy => cases hc; exact .inr (.inr (.inl ⟨x, y, x', y', rfl, hx, hy, rfl⟩))
    · cases hc
  case cond z x y =>
    split at hc
    · next z' x' y' hz hx hy => cases hc; exact .inr (.inr (.inr (.inl ⟨z, x, y, z', x', y', rfl, hz, hx, hy, rfl⟩)))
    · cases hc
  case block id x =>
    split at hc
    · next x' hx => cases hc; exact .inr (.inr (.inr (.inr (.inl ⟨id, x, x', rfl, hx, rfl⟩))))
    · cases hc
  case loop x =>
    split at hc
    · next x' hx => cases hc; exact .inr (.inr (.inr (.inr (.inr (.inl ⟨x, x', rfl, hx, rfl⟩)))))
    · cases hc
  case scope x =>
    split at hc
    · next x' hx => cases hc; exact .inr (.inr (.inr (.inr (.inr (.inr (.inl ⟨x, x', rfl, hx, rfl⟩))))))
    · cases hc
  case rangeFunc f ps x y =>
    split at hc
    · next f' x' y' hf hx hy =>
      split at hc
      · next hps =>
        cases hc
        refine .inr (.inr (.inr (.inr (.inr (.inr (.inr (.inl ⟨f, ps, x, y, f', x', y', rfl, hf, hx, hy, fun p hp => ?_, rfl⟩)))))))
        have := List.all_eq_true.1 hps p hp
        exact Nat.le_of_ble_eq_true this
      · cases hc
    · cases hc
  case exit id => cases hc; exact .inr (.inr (.inr (.inr (.inr (.inr (.inr (.inr (.inl ⟨id, rfl, rfl⟩))))))))
  case ret => cases hc; exact .inr (.inr (.inr (.inr (.inr (.inr (.inr (.inr (.inr ⟨rfl, rfl⟩))))))))
  all_goals (cases hc; exact absurd rfl hbad)

theorem cReg_kind {nt : Nat} {ops : Array Oper} {draw : Bool} {ac : AC} (hc : cReg P nt ops draw = some ac) :
    (draw = false ∧ ∃ as, cOps P nt ops ops.toList = some as ∧ ac = .reg as) ∨ (draw = true ∧ ∃ cnt as, ac = .regD cnt as) := by
  unfold cReg at hc
  split at hc
  · next hd =>
    right
    dsimp only at hc
    split at hc
    · split at hc
      · cases hc; exact ⟨hd, _, _, rfl⟩
      · cases hc
    · cases hc
  · next hd =>
    left
    split at hc
    · next as has => cases hc; exact ⟨by simpa using hd, as, has, rfl⟩
    · cases hc

theorem SR.cx {nt : Nat} {st : St} (s : SR P σ nt st w a) : Cx P σ st.tm st.h w a := ⟨s.wr, s.tr⟩

theorem regO_some {df : List Nat} {x : Option (Tm × Hp)} {y : Ex} {st' : St} (e : regO df x = some (.code y st')) : ∃ tm h, x = some (tm, h) ∧ y = .nor ∧ st' = ⟨tm, df, h⟩ := by
  unfold regO at e
  split at e
  · cases e; exact ⟨_, _, rfl, rfl, rfl⟩
  · cases e

theorem cd_sound {rec : RecT} (hrec : RecOK P rec) : ∀ (ac : AC) (rd : Option Nat) (st : St) (x : Ex) (st' : St), cd ac rec rd st = some (.code x st') → CodeOK P rd ac st x st' := by
  intro ac
  induction ac with
  | skip =>
    intro rd st x st' hv c nt hc σ w a r n Q hs _ hQ
    have hv' : some (Res.code Ex.nor st) = some (.code x st') := hv
    cases hv'
    have := hQ σ w a hs (Ext.refl _ _ _)
    rcases cCode_inv hc (by simp) with ⟨h1 | ⟨l, h1⟩, _⟩ | h1 | h1 | h1 | h1 | h1 | h1 | h1 | h1 | h1
    · subst h1; exact wpIn_skip this
    · subst h1; exact wpIn_label this
    · obtain ⟨id, ops, draw, rfl, h2⟩ := h1
      rcases cReg_kind h2 with ⟨_, _, _, e⟩ | ⟨_, _, _, e⟩ <;> cases e
    all_goals (exfalso; simp at h1)
  | reg as =>
    intro rd st x st' hv c nt hc σ w a r n Q hs _ hQ
    obtain ⟨tm, h, e1, rfl, rfl⟩ := regO_some (show regO st.df (runOps as rec st.tm st.h) = _ from hv)
    rcases cCode_inv hc (by simp) with ⟨_, e⟩ | h1 | h1 | h1 | h1 | h1 | h1 | h1 | h1 | h1
    · cases e
    · obtain ⟨id, ops, draw, rfl, h2⟩ := h1
      rcases cReg_kind h2 with ⟨rfl, as', h3, e⟩ | ⟨_, _, _, e⟩
      · cases e
        refine wpIn_region ?_
        rw [List.range_eq_range']
        refine runOps_sound hrec ops.size 0 as st.tm st.h tm h σ w a (by omega) (by simpa using h3) e1 hs.cx hs.sz (fun σ' w' a' p1 p2 p3 p4 p5 => ?_)
        exact hQ σ' w' a' ⟨p1, p3, p4, by rw [p5]; exact hs.df.mono p2.le⟩ p2
      · cases e
    all_goals (exfalso; simp at h1)
  | regD cnt as =>
    intro rd st x st' hv c nt hc σ w a r n Q hs _ hQ
    obtain ⟨tm, h, e1, rfl, rfl⟩ := regO_some (show regO st.df (runOpsD as st.h.nx rec st.tm (st.h.bump cnt) 0 [st.h.bump cnt] []) = _ from hv)
    rcases cCode_inv hc (by simp) with ⟨_, e⟩ | h1 | h1 | h1 | h1 | h1 | h1 | h1 | h1 | h1
    · cases e
    · obtain ⟨id, ops, draw, rfl, h2⟩ := h1
      rcases cReg_kind h2 with ⟨_, _, _, e⟩ | ⟨rfl, _, _, e⟩
      · cases e
      · cases e
        refine regD_sound hrec h2 e1 hs.cx hs.sz (fun σ' w' a' p1 p2 p3 p4 p5 => ?_)
        exact hQ σ' w' a' ⟨p1, p3, p4, by rw [p5]; exact hs.df.mono p2.le⟩ p2
    all_goals (exfalso; simp at h1)
  | seq xa ya iha ihb =>
    intro rd st x st' hv c nt hc σ w a r n Q hs hrd hQ
    have hv' : seqO (cd xa rec rd st) (fun st => cd ya rec rd st) = some (.code x st') := hv
    rcases cCode_inv hc (by simp) with ⟨_, e⟩ | h1 | h1 | h1 | h1 | h1 | h1 | h1 | h1 | h1
    · cases e
    · obtain ⟨id, ops, draw, rfl, h2⟩ := h1
      rcases cReg_kind h2 with ⟨_, _, _, e⟩ | ⟨_, _, _, e⟩ <;> cases e
    · obtain ⟨x1, y1, x2, y2, rfl, h2, h3, e⟩ := h1
      cases e
      refine wpIn_seq ?_
      unfold seqO at hv'
      split at hv'
      · next st1 e1 =>
        refine iha rd st .nor st1 e1 x1 nt h2 σ w a r n _ hs hrd (fun σ1 w1 a1 q1 q2 => ?_)
        exact ihb rd st1 x st' hv' y1 nt h3 σ1 w1 a1 r n Q q1 (hrd.mono q2.le) (fun σ2 w2 a2 p1 p2 => hQ σ2 w2 a2 p1 (q2.trans p2))
      · next hne =>
        refine iha rd st x st' hv' x1 nt h2 σ w a r n _ hs hrd (fun σ1 w1 a1 q1 q2 => ?_)
        have := hQ σ1 w1 a1 q1 q2
        cases x with
        | nor => exact absurd hv' (hne st')
        | ret => exact this
        | exit id => exact this
    all_goals (exfalso; simp at h1)
  | cond z xa ya iha ihb =>
    intro rd st x st' hv c nt hc σ w a r n Q hs hrd hQ
    have hv' : condO (z.ev st.tm) (cd xa rec rd st) (cd ya rec rd st) = some (.code x st') := hv
    rcases cCode_inv hc (by simp) with ⟨_, e⟩ | h1 | h1 | h1 | h1 | h1 | h1 | h1 | h1 | h1
    · cases e
    · obtain ⟨id, ops, draw, rfl, h2⟩ := h1
      rcases cReg_kind h2 with ⟨_, _, _, e⟩ | ⟨_, _, _, e⟩ <;> cases e
    · exfalso; simp at h1
    · obtain ⟨z1, x1, y1, z2, x2, y2, rfl, hz, h2, h3, e⟩ := h1
      cases e
      unfold condO at hv'
      split at hv'
      · next e1 =>
        have hb := opnd hs.cx hz e1
        simp only [conc, Option.some.injEq] at hb
        exact wpIn_cond_true hb.symm (iha rd st x st' hv' x1 nt h2 σ w a r n Q hs hrd hQ)
      · next e1 =>
        have hb := opnd hs.cx hz e1
        simp only [conc, Option.some.injEq] at hb
        exact wpIn_cond_false hb.symm (ihb rd st x st' hv' y1 nt h3 σ w a r n Q hs hrd hQ)
      · cases hv'
    all_goals (exfalso; simp at h1)
  | blk id xa ih =>
    intro rd st x st' hv c nt hc σ w a r n Q hs hrd hQ
    have hv' : blkO id (cd xa rec rd st) = some (.code x st') := hv
    rcases cCode_inv hc (by simp) with ⟨_, e⟩ | h1 | h1 | h1 | h1 | h1 | h1 | h1 | h1 | h1
    · cases e
    · obtain ⟨id, ops, draw, rfl, h2⟩ := h1
      rcases cReg_kind h2 with ⟨_, _, _, e⟩ | ⟨_, _, _, e⟩ <;> cases e
    · exfalso; simp at h1
    · exfalso; simp at h1
    · obtain ⟨id1, x1, x2, rfl, h2, e⟩ := h1
      cases e
      refine wpIn_block ?_
      unfold blkO at hv'
      split at hv'
      · next j st1 e1 =>
        refine ih rd st (.exit j) st1 e1 x1 nt h2 σ w a r n _ hs hrd (fun σ1 w1 a1 q1 q2 => ?_)
        revert hv'
        cases hb : Nat.beq j id with
        | true =>
          intro hv'
          cases hv'
          have := Nat.eq_of_beq_eq_true hb
          simp only [cExit, Exit.inBlock]
          rw [if_pos this]
          exact hQ σ1 w1 a1 q1 q2
        | false =>
          intro hv'
          cases hv'
          have := Nat.ne_of_beq_eq_false hb
          simp only [cExit, Exit.inBlock]
          rw [if_neg this]
          exact hQ σ1 w1 a1 q1 q2
      · next hne =>
        refine ih rd st x st' hv' x1 nt h2 σ w a r n _ hs hrd (fun σ1 w1 a1 q1 q2 => ?_)
        have := hQ σ1 w1 a1 q1 q2
        cases x with
        | nor => exact this
        | ret => exact this
        | exit j => exact absurd hv' (hne j st')
    all_goals (exfalso; simp at h1)
  | loop xa ih =>
    intro rd st x st' hv c nt hc σ w a r n Q hs hrd hQ
    have hv' : rec (.loop rd xa st) = some (.code x st') := hv
    rcases cCode_inv hc (by simp) with ⟨_, e⟩ | h1 | h1 | h1 | h1 | h1 | h1 | h1 | h1 | h1
    · cases e
    · obtain ⟨id, ops, draw, rfl, h2⟩ := h1
      rcases cReg_kind h2 with ⟨_, _, _, e⟩ | ⟨_, _, _, e⟩ <;> cases e
    · exfalso; simp at h1
    · exfalso; simp at h1
    · exfalso; simp at h1
    · obtain ⟨x1, x2, rfl, h2, e⟩ := h1
      cases e
      have := hrec _ _ hv'
      exact loopIn_wp (this x1 nt h2 σ w a r n Q hs hrd hQ)
    all_goals (exfalso; simp at h1)
  | scp xa ih =>
    intro rd st x st' hv c nt hc σ w a r n Q hs hrd hQ
    have hv' : cd xa rec rd st = some (.code x st') := hv
    rcases cCode_inv hc (by simp) with ⟨_, e⟩ | h1 | h1 | h1 | h1 | h1 | h1 | h1 | h1 | h1
    · cases e
    · obtain ⟨id, ops, draw, rfl, h2⟩ := h1
      rcases cReg_kind h2 with ⟨_, _, _, e⟩ | ⟨_, _, _, e⟩ <;> cases e
    · exfalso; simp at h1
    · exfalso; simp at h1
    · exfalso; simp at h1
    · exfalso; simp at h1
    · obtain ⟨x1, x2, rfl, h2, e⟩ := h1
      cases e
      refine wpIn_scope (ih rd st x st' hv' x1 nt h2 σ w a r n _ hs hrd (fun σ1 w1 a1 q1 q2 => ?_))
      have := hQ σ1 w1 a1 q1 q2
      cases x <;> exact this
    all_goals (exfalso; simp at h1)
  | rf f ps xa ya _ _ =>
    intro rd st x st' hv c nt hc σ w a r n Q hs hrd hQ
    have hv' : rfGo ps xa ya rec st (f.ev st.tm) (rfDf rd st) = some (.code x st') := hv
    rcases cCode_inv hc (by simp) with ⟨_, e⟩ | h1 | h1 | h1 | h1 | h1 | h1 | h1 | h1 | h1
    · cases e
    · obtain ⟨id, ops, draw, rfl, h2⟩ := h1
      rcases cReg_kind h2 with ⟨_, _, _, e⟩ | ⟨_, _, _, e⟩ <;> cases e
    · exfalso; simp at h1
    · exfalso; simp at h1
    · exfalso; simp at h1
    · exfalso; simp at h1
    · exfalso; simp at h1
    · obtain ⟨g, params, assign, body, f', x', y', rfl, hg, h2, h3, hps, e⟩ := h1
      cases e
      exact rf_sound hrec hv' hg h2 h3 hps rfl hs hrd hQ
    all_goals (exfalso; simp at h1)
  | exit id =>
    intro rd st x st' hv c nt hc σ w a r n Q hs _ hQ
    have hv' : some (Res.code (Ex.exit id) st) = some (.code x st') := hv
    cases hv'
    have := hQ σ w a hs (Ext.refl _ _ _)
    rcases cCode_inv hc (by simp) with ⟨_, e⟩ | h1 | h1 | h1 | h1 | h1 | h1 | h1 | h1 | h1
    · cases e
    · obtain ⟨id, ops, draw, rfl, h2⟩ := h1
      rcases cReg_kind h2 with ⟨_, _, _, e⟩ | ⟨_, _, _, e⟩ <;> cases e
    · exfalso; simp at h1
    · exfalso; simp at h1
    · exfalso; simp at h1
    · exfalso; simp at h1
    · exfalso; simp at h1
    · exfalso; simp at h1
    · obtain ⟨id', rfl, e⟩ := h1
      cases e
      exact wpIn_exit this
    · exfalso; simp at h1
  | ret =>
    intro rd st x st' hv c nt hc σ w a r n Q hs _ hQ
    have hv' : some (Res.code Ex.ret st) = some (.code x st') := hv
    cases hv'
    have := hQ σ w a hs (Ext.refl _ _ _)
    rcases cCode_inv hc (by simp) with ⟨_, e⟩ | h1 | h1 | h1 | h1 | h1 | h1 | h1 | h1 | h1
    · cases e
    · obtain ⟨id, ops, draw, rfl, h2⟩ := h1
      rcases cReg_kind h2 with ⟨_, _, _, e⟩ | ⟨_, _, _, e⟩ <;> cases e
    · exfalso; simp at h1
    · exfalso; simp at h1
    · exfalso; simp at h1
    · exfalso; simp at h1
    · exfalso; simp at h1
    · exfalso; simp at h1
    · exfalso; simp at h1
    · obtain ⟨rfl, _⟩ := h1
      exact wpIn_ret this
  | bad => intro rd st x st' hv; have hv' : (none : Option Res) = some (.code x st') := hv; cases hv'

end Go.Proofs.YtgnpoaoekhplhaaGreatDoor.AE
namespace Go.Proofs.YtgnpoaoekhplhaaGreatDoor.AE
open Go
variable {P : Program} {w w' : World} {σ σ' : Sg} {tm : Tm} {a : Act} {h h' : Hp}

/-! ### The rounds of a loop -/
theorem loop_step {rec : RecT} (hrec : RecOK P rec) {rd : Option Nat} {b : AC} {st st' : St} {x : Ex}
    (hv : seqO (cd b rec rd st) (fun st => rec (.loop rd b st)) = some (.code x st')) : LoopOK P rd b st x st' := by
  intro c nt hc σ w a r n Q hs hrd hQ
  refine loopIn_body ?_
  unfold seqO at hv
  split at hv
  · next st1 e1 =>
    refine cd_sound hrec b rd st .nor st1 e1 c nt hc σ w a r n _ hs hrd (fun σ1 w1 a1 q1 q2 => ?_)
    have h2 : LoopOK P rd b st1 x st' := hrec _ _ hv
    exact h2 c nt hc σ1 w1 a1 r n Q q1 (hrd.mono q2.le) (fun σ2 w2 a2 p1 p2 => hQ σ2 w2 a2 p1 (q2.trans p2))
  · next hne =>
    refine cd_sound hrec b rd st x st' hv c nt hc σ w a r n _ hs hrd (fun σ1 w1 a1 q1 q2 => ?_)
    have := hQ σ1 w1 a1 q1 q2
    cases x with
    | nor => exact absurd hv (hne st')
    | ret => exact this
    | exit id => exact this

/-! ### A function -/
theorem setArgs_get : ∀ (l : List V) (k : Nat) (tm : Tm) (t : Nat) (v : V), (setArgs k l tm).get t = some v → (∃ i, t = k + i ∧ l[i]? = some v) ∨ tm.get t = some v
  | [], k, tm, t, v, h => .inr h
  | u :: l, k, tm, t, v, h => by
    rcases setArgs_get l (k + 1) _ t v h with ⟨i, e1, e2⟩ | e
    · exact .inl ⟨i + 1, by omega, by simpa using e2⟩
    · rw [get_set] at e
      split at e
      · next he => cases e; exact .inl ⟨0, by omega, rfl⟩
      · exact .inr e

theorem setArgs_rel {args : List V} {xs : List Value} (hx : concs σ args = some xs) (ys : Array Value) : TRel σ (setArgs 0 args .e) (xs.toArray ++ ys) := by
  intro t v hv
  rcases setArgs_get _ _ _ _ _ hv with ⟨i, rfl, e2⟩ | e
  · obtain ⟨x, q1, q2⟩ := concs_get hx e2
    refine ⟨x, q1, ?_⟩
    have hi : i < xs.length := by rcases Nat.lt_or_ge i xs.length with h | h; exact h; rw [List.getElem?_eq_none h] at q2; cases q2
    rw [Nat.zero_add, Array.getElem?_append_left (by simpa using hi)]
    simpa using q2
  · rw [get_e] at e; cases e

def resOne (tmps : Array Value) : ResultVar → Sem Value
  | .tmp t => pure (tmps.getD t undef)
  | .cell a t => do loadVar t (← asAddr (tmps.getD a undef))

theorem results_one {r : ResultVar} {rv : RV} (hr : cRes P r = some rv) (c : Cx P σ tm h w a) {v : V} (hv : resV1 rv tm h = some v) :
    ∃ x, conc σ v = some x ∧ (resOne a.tmps r).run P w = .ok x w := by
  unfold cRes at hr
  split at hr
  · cases hr
    obtain ⟨x, q1, q2⟩ := c.tr _ _ hv
    exact ⟨x, q1, by simp [resOne, Sem.run_pure, q2]⟩
  · split at hr
    · next n hs =>
      cases hr
      simp only [resV1] at hv
      cases hu : tm.get _ with
      | none => rw [hu] at hv; cases n <;> (simp only [ldV] at hv; cases hv)
      | some u =>
        rw [hu] at hv
        obtain ⟨y, q1, q2⟩ := c.tr _ _ hu
        obtain ⟨z, k1, _, A, rfl, k2⟩ := ld_run c hs q1 hv
        refine ⟨z, k1, ?_⟩
        have hy : a.tmps.getD _ undef = .pointer (some A) := (Array.getD_eq_getD_getElem? ..).trans (by rw [q2]; rfl)
        simp only [resOne, hy, asAddr]
        simpa [Sem.run_bind, Sem.run_pure, Result.andThen] using k2
    · cases hr

theorem results_list (c : Cx P σ tm h w a) : ∀ {l : List ResultVar} {rs : List RV} {vs : List V}, mapO (cRes P) l = some rs → resV rs tm h = some vs →
    ∃ xs, concs σ vs = some xs ∧ (l.mapM (resOne a.tmps)).run P w = .ok xs w
  | [], rs, vs, hc, hv => by
    simp only [mapO] at hc; cases hc; cases hv
    exact ⟨[], rfl, by simp [Sem.run_pure]⟩
  | r :: l, rs, vs, hc, hv => by
    simp only [mapO] at hc
    split at hc
    · next y hy =>
      split at hc
      · next ys hys =>
        cases hc
        obtain ⟨v, vs', h1, h2, rfl⟩ := consO_some (show consO (resV1 y tm h) (resV ys tm h) = some vs from hv)
        obtain ⟨x, q1, q2⟩ := results_one hy c h1
        obtain ⟨xs, k1, k2⟩ := results_list c hys h2
        refine ⟨x :: xs, by simp only [concs, q1, k1], ?_⟩
        rw [List.mapM_cons]
        simp only [Sem.run_bind, q2, Result.andThen, k2, Sem.run_pure]
      · cases hc
    · cases hc

theorem valR_sound {fn : Func} {rs : List RV} (hc : mapO (cRes P) fn.results.toList = some rs) (c : Cx P σ tm h w a) {v : V} {h2 : Hp} (hv : valR (resV rs tm h) h = some (.val v h2)) :
    h2 = h ∧ ∃ x, conc σ v = some x ∧ (results fn a.tmps).run P w = .ok x w := by
  have key : ∀ vs, resV rs tm h = some vs → ∃ xs, concs σ vs = some xs ∧ (results fn a.tmps).run P w = .ok (if hh : xs.toArray.size = 1 then xs.toArray[0] else .tuple xs.toArray) w := by
    intro vs hvs
    obtain ⟨xs, k1, k2⟩ := results_list c hc hvs
    refine ⟨xs, k1, ?_⟩
    have : results fn a.tmps = fn.results.mapM (resOne a.tmps) >>= fun vs => pure (if h : vs.size = 1 then vs[0] else .tuple vs) := by
      unfold results
      congr 1
    rw [this, Array.mapM_eq_mapM_toList]
    simp only [map_eq_pure_bind, Sem.run_bind, k2, Result.andThen, Sem.run_pure]
  unfold valR at hv
  split at hv
  · next v0 h0 e =>
    cases hv
    obtain ⟨xs, k1, k2⟩ := key _ e
    obtain ⟨x, ys, q1, q2, rfl⟩ := concs_cons k1
    simp only [concs] at q2; cases q2
    exact ⟨rfl, x, q1, by simpa using k2⟩
  · next h0 vs hne e =>
    cases hv
    obtain ⟨xs, k1, k2⟩ := key _ e
    refine ⟨rfl, .tuple xs.toArray, by simp only [conc, k1], ?_⟩
    have hl := concs_length k1
    have : xs.length ≠ 1 := by
      intro e1
      rw [hl] at e1
      match vs, e1 with
      | [v], _ => exact hne v rfl
    simpa [this] using k2
  · cases hv

theorem takeDf_sound {F : Fence} {n : Nat} {fn : Func} {tmps : Array Value} {R : Ending → World → Prop} : ∀ (df : List Nat) (h h2 : Hp) (σ : Sg) (w : World) (ds : List Deferred),
    takeDf df h = some h2 → WR P σ h w → DfRel σ df ds → (∀ w2, WR P σ h2 w2 → Ext σ h w σ h2 w2 → LeavesIn F n P fn tmps R [] .returning w2) → LeavesInM F n P fn tmps R ds .returning w
  | [], h, h2, σ, w, [], hv, hw, _, hR => by cases hv; exact hR w hw (Ext.refl _ _ _)
  | [], h, h2, σ, w, _ :: _, hv, hw, hd, hR => hd.elim
  | d :: df, h, h2, σ, w, [], hv, hw, hd, hR => hd.elim
  | d :: df, h, h2, σ, w, x :: ds, hv, hw, ⟨⟨pl, hp, hx⟩, hd⟩, hR => by
    simp only [takeDf] at hv
    split at hv
    · next hg =>
      obtain ⟨pl', hp', hb⟩ := hw.blk _ _ hg
      rw [hp] at hp'; cases hp'
      obtain ⟨k1, k2⟩ := hw.killput (w' := w.putObj pl.blk (.deferred none)) hg hp rfl (fun b hb => putObj_other _ _ _ _ hb) (putObj_size _ _ _) (putObj_calm _ _ _)
      refine ⟨by simp, .inl ⟨pl.blk, _, by rw [hx], run_takeDeferred hb, ?_⟩⟩
      exact takeDf_sound df _ h2 σ _ ds hv k1 hd (fun w2 p1 p2 => hR w2 p1 (k2.trans p2))
    · cases hv

theorem callFn_sound {rec : RecT} (hrec : RecOK P rec) {f : Nat} {fn : Func} {af : AFn} (hf : P.funcs[f]? = some fn) (hc : cFn P fn = some af) {args : List V} {v : V}
    (hv : callFn af rec args h = some (.val v h')) : CallOK P f args h v h' ∧ Enters P f := by
  unfold cFn at hc
  split at hc
  · cases hc
  next c hbody =>
  split at hc
  next rs b hrs hb =>
    split at hc
    · next hnp =>
      cases hc
      obtain ⟨hnp, hname⟩ := hnp
      have hE : Enters P f := by
        intro args w
        have h1 : fn.name ≠ "runtime.NumGoroutine" := by simpa using hname
        simp [callFunc, hf, h1, hbody, Sem.run_bind, Sem.run_pure, Result.andThen, Sem.run, program]
      refine ⟨?_, hE⟩
      intro σ w xs hw hx
      rw [hE]
      have hv' : (bif Nat.beq (fn.params.size + fn.nfree) args.length then fnEnd rs (cd b rec none ⟨setArgs 0 args .e, [], h⟩) else none) = some (.val v h') := hv
      cases hbq : Nat.beq (fn.params.size + fn.nfree) args.length with
      | false => rw [hbq] at hv'; cases hv'
      | true =>
        rw [hbq] at hv'
        have hlen := Nat.eq_of_beq_eq_true hbq
        have hxl := concs_length hx
        have hv'' : fnEnd rs (cd b rec none ⟨setArgs 0 args .e, [], h⟩) = some (.val v h') := hv'
        have key : ∃ x st, cd b rec none ⟨setArgs 0 args .e, [], h⟩ = some (.code x st) ∧ (x = .nor ∨ x = .ret) ∧ endO rs st.tm (takeDf st.df st.h) = some (.val v h') := by
          unfold fnEnd at hv''
          split at hv''
          · next st e => exact ⟨_, _, e, .inl rfl, hv''⟩
          · next st e => exact ⟨_, _, e, .inr rfl, hv''⟩
          · cases hv''
        obtain ⟨x, st, e1, hxx, e2⟩ := key
        show Calls P f xs.toArray w _
        refine callsIn_wide.1 (callsIn_of_wp_marks (n := 0) hf hbody trivial ?_)
        refine cd_sound hrec b none ⟨setArgs 0 args .e, [], h⟩ x st e1 c fn.ntmps hb σ w _ none 0 _ ⟨hw, setArgs_rel hx _, by simp; omega, trivial⟩ trivial (fun σ1 w1 a1 q1 q2 => ?_)
        have hL : LeavesInM Fence.wide 0 P fn a1.tmps (fun e w'' => ∃ x, e = Ending.returned x ∧ Post P σ h w v h' x w'') a1.defers .returning w1 := by
          unfold endO at e2
          split at e2
          · next h2 e3 =>
            refine takeDf_sound _ _ _ σ1 w1 _ e3 q1.wr q1.df (fun w2 p1 p2 => ?_)
            obtain ⟨rfl, x, k1, k2⟩ := valR_sound hrs ⟨p1, q1.tr⟩ e2
            exact ⟨x, k2, x, rfl, σ1, k1, p1, q2.trans p2⟩
          · cases e2
        rcases hxx with rfl | rfl
        · exact hL
        · exact hL
    · cases hc
  next => cases hc

end Go.Proofs.YtgnpoaoekhplhaaGreatDoor.AE
namespace Go.Proofs.YtgnpoaoekhplhaaGreatDoor.AE
open Go
variable {P : Program} {w w' : World} {σ σ' : Sg} {tm : Tm} {a : Act} {h h' : Hp}

theorem Fd_inRound (r : Option Nat) (l : Nat) : (Fd r).inRound l = Fd (some l) := rfl

/-- The parameters of a round. -/
theorem setPs_rel : ∀ {ps : List Nat} {args : List V} {xs : List Value} {tm tm' : Tm} {tmps : Array Value}, setPs ps args tm = some tm' → concs σ args = some xs → TRel σ tm tmps → (∀ p ∈ ps, p < tmps.size) →
    args.length = ps.length ∧ TRel σ tm' ((ps.zip xs).foldl (fun tmps q => tmps.setIfInBounds q.1 q.2) tmps) ∧ ((ps.zip xs).foldl (fun tmps q => tmps.setIfInBounds q.1 q.2) tmps).size = tmps.size
  | [], [], xs, tm, tm', tmps, hv, hx, ht, hp => by
    simp only [setPs] at hv; cases hv
    exact ⟨rfl, by simpa using ht, by simp⟩
  | [], _ :: _, xs, tm, tm', tmps, hv, hx, ht, hp => by simp only [setPs] at hv; cases hv
  | _ :: _, [], xs, tm, tm', tmps, hv, hx, ht, hp => by simp only [setPs] at hv; cases hv
  | p :: ps, v :: args, xs, tm, tm', tmps, hv, hx, ht, hp => by
    obtain ⟨x, xs', h1, h2, rfl⟩ := concs_cons hx
    simp only [setPs] at hv
    have hs := ht.set (hp p (by simp)) h1
    obtain ⟨q1, q2, q3⟩ := setPs_rel (tmps := tmps.setIfInBounds p x) hv h2 hs (fun q hq => by simpa using hp q (List.mem_cons_of_mem _ hq))
    exact ⟨by simp [q1], by simpa using q2, by simpa using q3⟩

theorem zip_fold (params : Array Tmp) (xs : List Value) (tmps : Array Value) :
    (params.zip xs.toArray).foldl (fun tmps (t, a) => tmps.setIfInBounds t a) tmps = (params.toList.zip xs).foldl (fun tmps q => tmps.setIfInBounds q.1 q.2) tmps := by
  rw [← Array.foldl_toList, Array.toList_zip]

/-- A record is written. -/
theorem WR.putL (hw : WR P σ h w) {l : Nat} {o o' : O} {pl : Pl} {r' : Loop} (ho : h.get l = some o) (hp : σ l = some pl) (hro : o.ro = false)
    (hok : BlkOK P σ (w.putObj pl.blk (.loop r')) pl o') : WR P σ (h.set l o') (w.putObj pl.blk (.loop r')) ∧ Ext σ h w σ (h.set l o') (w.putObj pl.blk (.loop r')) :=
  hw.put ho hp hro (fun b hb => putObj_other _ _ _ _ hb) (putObj_size _ _ _) (putObj_calm _ _ _) hok

theorem round_sound {rec : RecT} (hrec : RecOK P rec) {l : Nat} {args : List V} {v : V} (hv : round rec l args h = some (.val v h')) : YieldOK P l args h v h' := by
  intro σ w xs pl hw hx hp
  unfold round at hv
  split at hv
  next ls0 pend0 tm ps xa xb d0 hg =>
    obtain ⟨pl', hp', hb⟩ := hw.blk _ _ hg
    rw [hp] at hp'; cases hp'
    obtain ⟨lr, nt, pd, hheap, hst, hpend, htr, hsz, hps, hca, hcb, hpl, hsd, hdd⟩ := hb
    subst hps
    unfold rdGo at hv
    split at hv
    next tm1 e1 =>
      obtain ⟨q1, q2, q3⟩ := setPs_rel e1 hx htr (by rw [hsz]; exact hpl)
      have hxl := concs_length hx
      have hrun := run_yield (P := P) (args := xs.toArray) hheap (by simp [hxl, q1])
      rw [hrun, zip_fold]
      intro r n
      generalize hT : (lr.params.toList.zip xs).foldl (fun tmps q => tmps.setIfInBounds q.1 q.2) lr.tmps = T at q2 q3
      refine roundIn_of_wpIn trivial ?_
      rw [Fd_inRound]
      unfold rdMid at hv
      split at hv
      next st ea =>
        refine cd_sound hrec xa (some l) ⟨tm1, [], h⟩ .nor st ea lr.assign nt hca σ w _ (some pl.blk) n _ ⟨hw, q2, by rw [q3, hsz], trivial⟩ ⟨pl, hp, rfl⟩ (fun σ1 w1 a1 p1 p2 => ?_)
        split at hv
        next pend tm0 ps' a' b' d hg1 =>
          have hp1 := p2.le _ _ hp
          obtain ⟨pl', hp', hb⟩ := p1.wr.blk _ _ hg1
          rw [hp1] at hp'; cases hp'
          obtain ⟨lr1, nt1, pd1, hheap1, hst1, hpend1, htr1, hsz1, hps1, hca1, hcb1, hpl1, hsd1, hdd1⟩ := hb
          have hst1' : lr1.state = .ready := hst1
          refine ⟨_, run_beginRound hheap1 hst1', ?_⟩
          obtain ⟨k1, k2⟩ := p1.wr.putL (l := l) (pl := pl) (r' := { lr1 with state := .busy }) (o' := .l .busy pend tm0 ps' a' b' d) hg1 hp1 rfl
            ⟨_, nt1, pd1, World.putObj_heap_same (Array.getElem?_eq_some_iff.1 hheap1).1, rfl, hpend1, htr1, hsz1, hps1, hca1, hcb1, hpl1, hsd1, hdd1⟩
          unfold rdEnd at hv
          split at hv
          next x st2 eb =>
            refine cd_sound hrec xb (some l) ⟨st.tm, st.df, st.h.set l _⟩ x st2 ?_ lr.body nt hcb σ1 _ a1 (some pl.blk) n _ ⟨k1, p1.tr, p1.sz, p1.df⟩ ⟨pl, hp1, rfl⟩ (fun σ2 w2 a2 s1 s2 => ?_)
            · exact eb
            split at hv
            next ls2 pend2 tm2 ps2 a2' b2 d2 hg2 =>
              have hp2 := s2.le _ _ hp1
              obtain ⟨pl', hp', hb⟩ := s1.wr.blk _ _ hg2
              rw [hp2] at hp'; cases hp'
              obtain ⟨lr2, nt2, pd2, hheap2, hst2, hpend2, htr2, hsz2, hps2, hca2, hcb2, hpl2, hsd2, hdd2⟩ := hb
              have hput : ∀ (ls : LS) (pe : Option Ex) (jump : Option Code), cLS ls = (if jump.isNone then .ready else .done) → pe.bind cEx = jump →
                  WR P σ2 (st2.h.set l (.l ls pe tm2 ps2 a2' b2 d2)) (w2.putObj pl.blk (.loop { lr2 with state := if jump.isNone then .ready else .done, pending := jump })) ∧
                  Ext σ h w σ2 (st2.h.set l (.l ls pe tm2 ps2 a2' b2 d2)) (w2.putObj pl.blk (.loop { lr2 with state := if jump.isNone then .ready else .done, pending := jump })) := by
                intro ls pe jump e1 e2
                obtain ⟨z1, z2⟩ := s1.wr.putL (l := l) (pl := pl) (r' := { lr2 with state := if jump.isNone then .ready else .done, pending := jump }) (o' := .l ls pe tm2 ps2 a2' b2 d2) hg2 hp2 rfl
                  ⟨_, nt2, pd2, World.putObj_heap_same (Array.getElem?_eq_some_iff.1 hheap2).1, e1.symm, e2.symm, htr2, hsz2, hps2, hca2, hcb2, hpl2, hsd2, hdd2⟩
                exact ⟨z1, p2.trans (k2.trans (s2.trans z2))⟩
              cases x with
              | nor =>
                cases hv
                obtain ⟨z1, z2⟩ := hput .ready none none rfl rfl
                exact ⟨_, _, run_endRound none hheap2, _, rfl, σ2, rfl, z1, z2⟩
              | ret =>
                cases hv
                obtain ⟨z1, z2⟩ := hput .done (some .ret) (some .ret) rfl rfl
                exact ⟨_, _, run_endRound (some .ret) hheap2, _, rfl, σ2, rfl, z1, z2⟩
              | exit id =>
                cases hv
                obtain ⟨z1, z2⟩ := hput .done (some (.exit id)) (some (.exit id)) rfl rfl
                exact ⟨_, _, run_endRound (some (.exit id)) hheap2, _, rfl, σ2, rfl, z1, z2⟩
            next => cases hv
          next => cases hv
        next => cases hv
      next => cases hv
    next => cases hv
  next => cases hv

/-! ### The evaluator as a whole -/
def TabOK (P : Program) (tb : Tab) : Prop := ∀ f args h v h', tb f args h = some (v, h') → CallOK P f args h v h' ∧ ((∃ l, V.fy l ∈ args) → Enters P f)

noncomputable def fsOf (P : Program) (f : Nat) : Option AFn := P.funcs[f]?.bind (cFn P)

def FsOK (P : Program) (fs : Nat → Option AFn) : Prop := ∀ f af, fs f = some af → ∃ fn, P.funcs[f]? = some fn ∧ cFn P fn = some af

theorem fsOf_ok (P : Program) : FsOK P (fsOf P) := by
  intro f af h
  unfold fsOf at h
  cases hf : P.funcs[f]? with
  | none => rw [hf] at h; cases h
  | some fn => rw [hf] at h; exact ⟨fn, rfl, h⟩

theorem step_sound {fs : Nat → Option AFn} {tb : Tab} (hfs : FsOK P fs) (htb : TabOK P tb) {rec : RecT} (hrec : RecOK P rec) : RecOK P (fun t => step fs tb t rec) := by
  intro t r hr
  cases t with
  | loop rd b st =>
    have hr' : seqO (cd b rec rd st) (fun st => rec (.loop rd b st)) = some r := hr
    cases r with
    | code x st' => exact loop_step hrec hr'
    | val v h' => exact trivial
  | call f args h =>
    have hr' : tabO (tb f args h) (fnO (fs f) rec args h) = some r := hr
    cases r with
    | code x st' => exact trivial
    | val v h' =>
      unfold tabO at hr'
      split at hr'
      · next e => cases hr'; exact htb _ _ _ _ _ e
      · next e =>
        cases hf : fs f with
        | none => rw [hf] at hr'; cases hr'
        | some af =>
          rw [hf] at hr'
          obtain ⟨fn, e1, e2⟩ := hfs _ _ hf
          obtain ⟨k1, k2⟩ := callFn_sound hrec e1 e2 hr'
          exact ⟨k1, fun _ => k2⟩
  | yield l args h =>
    have hr' : round rec l args h = some r := hr
    cases r with
    | code x st' => exact trivial
    | val v h' => exact round_sound hrec hr'

theorem ev_sound {fs : Nat → Option AFn} {tb : Tab} (hfs : FsOK P fs) (htb : TabOK P tb) : ∀ n, RecOK P (ev fs tb n)
  | 0 => fun t r hr => by cases hr
  | n + 1 => step_sound hfs htb (ev_sound hfs htb n)

end Go.Proofs.YtgnpoaoekhplhaaGreatDoor.AE
namespace Go.Proofs.YtgnpoaoekhplhaaGreatDoor.AE
open Go
variable {P : Program} {w w' : World} {σ σ' : Sg} {h h' : Hp}

/-- `Grown`, of the elder blocks alone. -/
def Grew (W w' : World) : Prop := W.keptBut w' (fun _ => False) ∧ (∀ a : Addr, a.block < W.heap.size → w'.frozen? a = W.frozen? a) ∧ W.heap.size ≤ w'.heap.size

theorem Ext.grew (e : Ext σ h w σ' h' w') (hro : ∀ id o, h.get id = some o → o.ro = true) : Grew w w' := by
  have hk : ∀ b, b < w.heap.size → w'.heap[b]? = w.heap[b]? := fun b hb => e.keep b hb (fun ⟨id, o, pl, h1, h2, _, _⟩ => by rw [hro id o h1] at h2; cases h2)
  refine ⟨⟨e.os, e.output, fun i hi => ?_⟩, fun a ha => ?_, e.size⟩
  · rw [hk i hi]
    split
    · next h1 h2 => rw [h1] at h2; cases h2; exact ⟨rfl, rfl, rfl, fun _ _ => rfl⟩
    · next h1 h2 => rw [h1] at h2; cases h2; exact .inr ⟨rfl, rfl⟩
    · rfl
  · simp only [World.frozen?, hk _ ha]

theorem calls_of_ev {fs : Nat → Option AFn} {tb : Tab} (hfs : FsOK P fs) (htb : TabOK P tb) {n f : Nat} {args : List V} {v : V} (hent : Enters P f)
    (hv : ev fs tb n (.call f args h) = some (.val v h')) (hw : WR P σ h w) {xs : List Value} (hx : concs σ args = some xs) :
    Calls P f xs.toArray w fun e w'' => ∃ x, e = .returned x ∧ Post P σ h w v h' x w'' := by
  obtain ⟨h1, _⟩ := ev_sound hfs htb n _ _ hv
  exact Calls.ofUpon hent (h1 σ w xs hw hx)
end Go.Proofs.YtgnpoaoekhplhaaGreatDoor.AE
/- The evaluator without a measure: what it answers with some measure. It is a fixed point of `step`. -/
set_option linter.unusedVariables false
namespace Go.Proofs.YtgnpoaoekhplhaaGreatDoor.AE
open Go

/-- A function of the answers that asks for finitely many of them. -/
def FinR {α : Type} (F : RecT → Option α) : Prop :=
  ∀ r x, F r = some x → ∃ L : List (Task × Res), (∀ p ∈ L, r p.1 = some p.2) ∧ ∀ r' : RecT, (∀ p ∈ L, r' p.1 = some p.2) → F r' = some x

variable {α β : Type}
theorem FinR.const (c : Option α) : FinR (fun _ => c) := fun r x h => ⟨[], by simp, fun _ _ => h⟩
theorem FinR.ask (t : Task) : FinR (fun r => r t) := fun r x h => ⟨[(t, x)], by simpa using h, fun r' h' => h' (t, x) (by simp)⟩
theorem FinR.bind {F : RecT → Option α} {K : α → RecT → Option β} (hF : FinR F) (hK : ∀ y, FinR (K y)) : FinR (fun r => (F r).bind fun y => K y r) := by
  intro r x h
  cases hy : F r with
  | none => simp only [hy] at h; cases h
  | some y =>
    simp only [hy] at h
    obtain ⟨L1, a1, b1⟩ := hF r y hy
    obtain ⟨L2, a2, b2⟩ := hK y r x h
    refine ⟨L1 ++ L2, fun p hp => (List.mem_append.1 hp).elim (a1 p) (a2 p), fun r' h' => ?_⟩
    simp only [b1 r' (fun p hp => h' p (List.mem_append.2 (.inl hp)))]
    exact b2 r' (fun p hp => h' p (List.mem_append.2 (.inr hp)))
theorem FinR.congr {F G : RecT → Option α} (hF : FinR F) (e : ∀ r, G r = F r) : FinR G := by
  have : G = F := funext e
  rw [this]; exact hF

theorem finR_resO (t : Task) : FinR (fun r => resO (r t)) :=
  ((FinR.ask t).bind (K := fun y _ => resO (some y)) (fun y => .const _)).congr fun r => by cases r t <;> rfl

theorem finR_callV (x : Option V) (vs : Option (List V)) (h : Hp) : FinR (fun r => callV x vs r h) := by
  rcases x with _ | x
  · exact .const _
  · cases x
    case fn f first caps => cases vs <;> first | exact .const _ | exact finR_resO _
    case fy l => cases vs <;> first | exact .const _ | exact finR_resO _
    all_goals exact .const _
theorem finR_callF (f : Nat) (vs : Option (List V)) (h : Hp) : FinR (fun r => callF f vs r h) := by
  cases vs
  · exact .const _
  · exact finR_resO _
theorem finR_fev (op : AOp) (tm : Tm) (h : Hp) : FinR (fun r => fev op r tm h) := by
  cases op
  case call f args => exact finR_callF _ _ _
  case cav x args => exact finR_callV _ _ _
  all_goals exact .const _
theorem finR_oev (op : AOp) (tm : Tm) (h : Hp) : FinR (fun r => oev op r tm h) := by
  unfold oev
  rcases kindOf op with _ | _ | _
  · exact .const _
  · exact .const _
  · exact finR_fev _ _ _
theorem finR_ifWanted (c : Option Bool) {F : RecT → Option (V × Hp)} (hF : FinR F) (h : Hp) : FinR (fun r => ifWanted c (F r) h) := by
  rcases c with _ | _ | _
  · exact .const _
  · exact .const _
  · exact hF
theorem finR_gev (o : AOper) (tm : Tm) (h : Hp) : FinR (fun r => gev o r tm h) := by
  unfold gev
  cases o.gd
  · exact finR_oev _ _ _
  · exact finR_ifWanted _ (finR_oev _ _ _) _
theorem finR_thenO {F : RecT → Option (V × Hp)} {K : V → Hp → RecT → Option α} (hF : FinR F) (hK : ∀ v h, FinR (K v h)) : FinR (fun r => thenO (F r) fun v h => K v h r) :=
  (hF.bind (K := fun p => K p.1 p.2) (fun p => hK p.1 p.2)).congr fun r => by cases F r <;> rfl
theorem finR_runOps : ∀ (l : List AOper) (tm : Tm) (h : Hp), FinR (fun r => runOps l r tm h)
  | [], tm, h => .const _
  | o :: l, tm, h => (finR_thenO (finR_gev o tm h) (fun v h => finR_runOps l (Tm.puts o.dst tm v) h)).congr fun r => rfl
theorem finR_gevD (o : AOper) (base : Nat) (tm : Tm) (h : Hp) : FinR (fun r => gevD o base r tm h) := by
  unfold gevD
  rcases kindOf o.op with _ | _ | _
  · exact finR_gev _ _ _
  · exact .const _
  · exact finR_gev _ _ _
theorem finR_runOpsD : ∀ (l : List AOper) (base : Nat) (tm : Tm) (h : Hp) (n : Nat) (hs : List Hp) (rs : List Rec), FinR (fun r => runOpsD l base r tm h n hs rs)
  | [], base, tm, h, n, hs, rs => .const _
  | o :: l, base, tm, h, n, hs, rs => by
    refine (finR_thenO (K := fun v h' r => goD o (runOpsD l) base r tm n hs rs v h') (finR_gevD o base tm h) (fun v h' => ?_)).congr fun r => rfl
    unfold goD
    rcases kindOf o.op with _ | _ | _
    · exact finR_runOpsD l _ _ _ _ _ _
    · exact finR_runOpsD l _ _ _ _ _ _
    · exact finR_runOpsD l _ _ _ _ _ _
theorem finR_seqO {F : RecT → Option Res} {K : St → RecT → Option Res} (hF : FinR F) (hK : ∀ st, FinR (K st)) : FinR (fun r => seqO (F r) fun st => K st r) :=
  (hF.bind (K := fun y r => seqO (some y) fun st => K st r) (fun y => by
    rcases y with ⟨_ | _ | _, st⟩ | _
    · exact hK st
    · exact .const _
    · exact .const _
    · exact .const _)).congr fun r => by cases F r <;> rfl
theorem finR_map {F : RecT → Option α} (hF : FinR F) (g : Option α → Option β) (hg : g none = none) : FinR (fun r => g (F r)) :=
  (hF.bind (K := fun y _ => g (some y)) (fun y => .const _)).congr fun r => by cases F r <;> simp [hg]

theorem finR_rfGo (ps : List Nat) (a b : AC) (st : St) (x : Option V) (y : Option (Nat × Hp × List Nat)) : FinR (fun r => rfGo ps a b r st x y) := by
  rcases x with _ | x
  · exact .const _
  · cases x
    case fn f first caps =>
      cases y
      · exact .const _
      · exact finR_map (FinR.ask _) (rfO _ _ _) rfl
    all_goals exact .const _

theorem finR_cd (c : AC) : ∀ (rd : Option Nat) (st : St), FinR (fun r => cd c r rd st) := by
  induction c with
  | skip => intro rd st; exact .const _
  | reg ops => intro rd st; exact finR_map (finR_runOps ops st.tm st.h) (regO st.df) rfl
  | regD cnt ops => intro rd st; exact finR_map (finR_runOpsD ops _ _ _ _ _ _) (regO st.df) rfl
  | seq a b iha ihb => intro rd st; exact finR_seqO (iha rd st) (fun st => ihb rd st)
  | cond z a b iha ihb =>
    intro rd st
    have : ∀ x : Option V, FinR (fun r => condO x (cd a r rd st) (cd b r rd st)) := by
      intro x
      rcases x with _ | x
      · exact .const _
      · cases x
        case b v =>
          cases v
          · exact ihb rd st
          · exact iha rd st
        all_goals exact .const _
    exact this _
  | blk id b ih => intro rd st; exact finR_map (ih rd st) (blkO id) rfl
  | loop b _ => intro rd st; exact FinR.ask _
  | scp b ih => intro rd st; exact ih rd st
  | rf f ps a b _ _ => intro rd st; exact finR_rfGo _ _ _ _ _ _
  | exit id => intro rd st; exact .const _
  | ret => intro rd st; exact .const _
  | bad => intro rd st; exact .const _

theorem finR_callFn (fn : AFn) (args : List V) (h : Hp) : FinR (fun r => callFn fn r args h) := by
  cases fn with
  | fn np res body =>
    have : ∀ c : Bool, FinR (fun r => bif c then fnEnd res (cd body r none ⟨setArgs 0 args .e, [], h⟩) else none) := by
      intro c
      cases c
      · exact .const _
      · exact finR_map (finR_cd body none _) (fnEnd res) rfl
    exact this _
  | indexByte => exact .const _
  | same => exact .const _

theorem finR_rdMid (l : Nat) (b : AC) {F : RecT → Option Res} (hF : FinR F) : FinR (fun r => rdMid l b r (F r)) :=
  (hF.bind (K := fun y r => rdMid l b r (some y)) (fun y => by
    rcases y with ⟨_ | _ | _, st⟩ | _
    · show FinR (fun r => match st.h.get l with
        | some (.l .ready pend tm0 ps a' b' d) => rdEnd l (cd b r (some l) ⟨st.tm, st.df, st.h.set l (.l .busy pend tm0 ps a' b' d)⟩)
        | _ => none)
      cases st.h.get l with
      | none => exact .const _
      | some o =>
        cases o with
        | c => exact .const _
        | d => exact .const _
        | l ls pend tm0 ps a' b' d =>
          cases ls with
          | ready => exact finR_map (finR_cd b (some l) _) (rdEnd l) rfl
          | busy => exact .const _
          | done => exact .const _
    · exact .const _
    · exact .const _
    · exact .const _)).congr fun r => by cases F r <;> rfl

theorem finR_round (l : Nat) (args : List V) (h : Hp) : FinR (fun r => round r l args h) := by
  unfold round
  cases h.get l with
  | none => exact .const _
  | some o =>
    cases o with
    | c => exact .const _
    | d => exact .const _
    | l ls pend tm ps a b d =>
      show FinR (fun r => rdGo l a b r h (setPs ps args tm))
      cases setPs ps args tm with
      | none => exact .const _
      | some tm => exact finR_rdMid l b (finR_cd a (some l) _)

theorem finR_step (fs : Nat → Option AFn) (tb : Tab) (t : Task) : FinR (fun r => step fs tb t r) := by
  cases t with
  | loop rd b st => exact finR_seqO (finR_cd b rd st) (fun st => FinR.ask _)
  | call f args h =>
    show FinR (fun r => tabO (tb f args h) (fnO (fs f) r args h))
    cases tb f args h with
    | some p => exact .const _
    | none =>
      show FinR (fun r => fnO (fs f) r args h)
      cases fs f with
      | none => exact .const _
      | some fn => exact finR_callFn fn args h
  | yield l args h => exact finR_round l args h

/-! ### The fixed point -/
variable (fs : Nat → Option AFn) (tb : Tab)
theorem ev_succ (n : Nat) (t : Task) : ev fs tb (n + 1) t = step fs tb t (ev fs tb n) := rfl
theorem ev_up1 : ∀ (n : Nat) (t : Task) (r : Res), ev fs tb n t = some r → ev fs tb (n + 1) t = some r
  | 0, t, r, h => by cases h
  | n + 1, t, r, h => by
    obtain ⟨L, a, b⟩ := finR_step fs tb t (ev fs tb n) r h
    exact b (ev fs tb (n + 1)) (fun p hp => ev_up1 n _ _ (a p hp))
theorem ev_up {n m : Nat} (hnm : n ≤ m) {t : Task} {r : Res} (h : ev fs tb n t = some r) : ev fs tb m t = some r := by
  induction hnm with
  | refl => exact h
  | step _ ih => exact ev_up1 fs tb _ _ _ ih

open Classical in
noncomputable def EV : RecT := fun t => if h : ∃ n r, ev fs tb n t = some r then some h.choose_spec.choose else none
theorem EV_of {n : Nat} {t : Task} {r : Res} (h : ev fs tb n t = some r) : EV fs tb t = some r := by
  have hx : ∃ n r, ev fs tb n t = some r := ⟨n, r, h⟩
  have h2 : ev fs tb hx.choose t = some hx.choose_spec.choose := hx.choose_spec.choose_spec
  unfold EV
  rw [dif_pos hx]
  rcases Nat.le_total n hx.choose with hl | hl
  · exact (h2.symm.trans (ev_up fs tb hl h))
  · exact ((ev_up fs tb hl h2).symm.trans h)
theorem EV_some {t : Task} {r : Res} (h : EV fs tb t = some r) : ∃ n, ev fs tb n t = some r := by
  unfold EV at h
  split at h
  · next hx => cases h; exact ⟨_, hx.choose_spec.choose_spec⟩
  · cases h
theorem EV_list (L : List (Task × Res)) (h : ∀ p ∈ L, EV fs tb p.1 = some p.2) : ∃ n, ∀ p ∈ L, ev fs tb n p.1 = some p.2 := by
  induction L with
  | nil => exact ⟨0, by simp⟩
  | cons q L ih =>
    obtain ⟨n, hn⟩ := ih (fun p hp => h p (List.mem_cons_of_mem _ hp))
    obtain ⟨m, hm⟩ := EV_some fs tb (h q (by simp))
    refine ⟨max n m, fun p hp => ?_⟩
    rcases List.mem_cons.1 hp with e | hp
    · subst e; exact ev_up fs tb (Nat.le_max_right _ _) hm
    · exact ev_up fs tb (Nat.le_max_left _ _) (hn p hp)
theorem EV_eq (t : Task) : EV fs tb t = step fs tb t (EV fs tb) := by
  cases h : step fs tb t (EV fs tb) with
  | some r =>
    obtain ⟨L, a, b⟩ := finR_step fs tb t _ r h
    obtain ⟨n, hn⟩ := EV_list fs tb L a
    exact EV_of fs tb (n := n + 1) (b _ hn)
  | none =>
    cases h2 : EV fs tb t with
    | none => rfl
    | some r =>
      obtain ⟨n, hn⟩ := EV_some fs tb h2
      cases n with
      | zero => cases hn
      | succ n =>
        obtain ⟨L, a, b⟩ := finR_step fs tb t _ r hn
        have : step fs tb t (EV fs tb) = some r := b (EV fs tb) (fun p hp => EV_of fs tb (n := n) (a p hp))
        rw [h] at this; cases this
theorem EV_sound {P : Program} (hfs : FsOK P fs) (htb : TabOK P tb) : RecOK P (EV fs tb) := fun t r h =>
  let ⟨n, hn⟩ := EV_some fs tb h
  ev_sound hfs htb n t r hn
end Go.Proofs.YtgnpoaoekhplhaaGreatDoor.AE
set_option linter.unusedVariables false
/- Tables: calls whose answers are known, over the laid package variables; and the bodiless functions. -/
namespace Go.Proofs.YtgnpoaoekhplhaaGreatDoor.AE
open Go
variable {P : Program} {w w' : World} {σ σ' : Sg} {h h' : Hp}

/-! ### Values without pointers -/
mutual
def V.cl : V → Bool
  | .p _ _ | .sl _ _ _ _ | .fy _ => false
  | .fn _ a c => V.cls a && V.cls c
  | .ag l | .tu l => V.cls l
  | _ => true
def V.cls : List V → Bool
  | [] => true
  | v :: l => v.cl && V.cls l
end
mutual
theorem conc_cl (σ σ' : Sg) : ∀ v : V, v.cl = true → conc σ v = conc σ' v
  | .b _, _ | .i _ _, _ | .s _, _ | .pn, _ | .sn, _ | .fnil, _ | .inil, _ => by simp only [conc]
  | .p _ _, h | .sl _ _ _ _, h | .fy _, h => by simp [V.cl] at h
  | .fn f a c, h => by
    simp only [V.cl, Bool.and_eq_true] at h
    simp only [conc, concs_cl σ σ' a h.1, concs_cl σ σ' c h.2]
  | .ag l, h => by
    simp only [V.cl] at h
    simp only [conc, concs_cl σ σ' l h]
  | .tu l, h => by
    simp only [V.cl] at h
    simp only [conc, concs_cl σ σ' l h]
theorem concs_cl (σ σ' : Sg) : ∀ l : List V, V.cls l = true → concs σ l = concs σ' l
  | [], _ => by simp only [concs]
  | v :: l, h => by
    simp only [V.cls, Bool.and_eq_true] at h
    simp only [concs, conc_cl σ σ' v h.1, concs_cl σ σ' l h.2]
end
theorem cls_get {l : List V} (h : V.cls l = true) {i : Nat} {v : V} (hv : l[i]? = some v) : v.cl = true := by
  induction l generalizing i with
  | nil => simp at hv
  | cons x l ih =>
    simp only [V.cls, Bool.and_eq_true] at h
    cases i with
    | zero => simp at hv; subst hv; exact h.1
    | succ i => exact ih h.2 (by simpa using hv)
theorem cls_fy {l : List V} (h : V.cls l = true) : ¬ ∃ k, V.fy k ∈ l := by
  rintro ⟨k, hk⟩
  obtain ⟨i, hi⟩ := List.getElem?_of_mem hk
  have := cls_get h hi
  simp [V.cl] at this

def O.cl : O → Bool
  | .c cs _ _ _ _ _ => V.cls cs
  | _ => false
theorem BlkOK.cl {pl : Pl} {o : O} (hc : o.cl = true) (hb : BlkOK P σ w pl o) : BlkOK P σ' w pl o := by
  cases o with
  | c cs ty op ro sb fz =>
    obtain ⟨C, lo, hi, h1, h2, h3⟩ := hb
    exact ⟨C, lo, hi, h1, fun i v hv => let ⟨x, a, b⟩ := h2 i v hv; ⟨x, (conc_cl σ' σ v (cls_get hc hv)).trans a, b⟩, h3⟩
  | l st pend tm ps a b df => simp [O.cl] at hc
  | d => simp [O.cl] at hc

theorem UponR.mono {res : Result Next} {R R' : Value → World → Prop} (hu : UponR P res R) (hm : ∀ x w', R x w' → R' x w') : UponR P res R' := by
  unfold UponR at hu ⊢
  split at hu
  · exact hm _ _ hu
  · exact hu.mono fun e w' ⟨x, a, b⟩ => ⟨x, a, hm _ _ b⟩
  · exact fun r n => (hu r n).mono fun e w' ⟨x, a, b⟩ => ⟨x, a, hm _ _ b⟩
  · exact hu

/-- A call that reads nothing but the laid variables, and whose answer bears no pointer: over any heap in which they lie. -/
theorem CallOK.frame {hG hx : Hp} {f : Nat} {args : List V} {v : V} (hok : CallOK P f args hG v hx) (ha : V.cls args = true) (hv : v.cl = true)
    (hro : ∀ id o, hG.get id = some o → o.ro = true ∧ o.cl = true ∧ id < P.globals.size) (hnx : hG.nx = P.globals.size)
    (hsub : ∀ id o, hG.get id = some o → h.get id = some o) : CallOK P f args h v h := by
  intro σ w xs hw hx
  let σG : Sg := fun id => if id < P.globals.size then σ id else none
  have hσ : ∀ id pl, σG id = some pl → σ id = some pl := by
    intro id pl e
    simp only [σG] at e
    split at e
    · exact e
    · cases e
  have hwG : WR P σG hG w := by
    refine ⟨fun id o ho => ?_, fun id id' o o' pl pl' h1 h2 hr e1 e2 eb => ?_, fun id hid => ?_, fun g hg => ?_⟩
    · obtain ⟨_, hc, hid⟩ := hro id o ho
      obtain ⟨pl, e1, e2⟩ := hw.blk id o (hsub _ _ ho)
      exact ⟨pl, by simp only [σG]; rw [if_pos hid]; exact e1, e2.cl hc⟩
    · exact hw.inj id id' o o' pl pl' (hsub _ _ h1) (hsub _ _ h2) hr (hσ _ _ e1) (hσ _ _ e2) eb
    · simp only [σG]; rw [if_neg (by omega)]
    · simp only [σG]; rw [if_pos hg]; exact hw.glob g hg
  refine (hok σG w xs hwG ((concs_cl σG σ args ha).trans hx)).mono ?_
  rintro x w' ⟨σ', c1, c2, c3⟩
  have keep : ∀ b, b < w.heap.size → w'.heap[b]? = w.heap[b]? := fun b hb => c3.keep b hb (fun ⟨id, o, pl, h1, h2, _, _⟩ => by rw [(hro id o h1).1] at h2; cases h2)
  refine ⟨σ, (conc_cl σ σ' v hv).trans c1, ⟨fun id o ho => ?_, hw.inj, hw.dom, hw.glob⟩, ⟨Sg.le_refl σ, c3.size, fun b hb _ => keep b hb, fun _ _ h => h, fun _ _ h => h, Nat.le_refl _, fun _ _ => rfl, c3.tape, c3.os, c3.output⟩⟩
  obtain ⟨pl, e1, e2⟩ := hw.blk id o ho
  exact ⟨pl, e1, e2.mono (Sg.le_refl σ) (keep _ e2.lt)⟩

/-! ### The laid variables -/
/-- The heap that holds the laid tables alone; t gives the types. -/
noncomputable def laidH (t : Nat → Nat) (n : Nat) : List (Nat × List V) → Hp
  | [] => ⟨.e, n⟩
  | p :: L => (laidH t n L).set p.1 (.c p.2 (t p.1) none true true p.2.length)
noncomputable def laid1 (h : Hp) (g : Nat) (T : List V) : Bool :=
  match h.get g with
  | some (.c cs _ none true true fz) => Nat.beq fz T.length && V.beqs cs T
  | _ => false
/-- Do the tables lie in a heap? -/
noncomputable def laidB (h : Hp) : List (Nat × List V) → Bool
  | [] => true
  | p :: L => laid1 h p.1 p.2 && laidB h L

noncomputable def tyOf (h : Hp) (g : Nat) : Nat := match h.get g with
  | some (.c _ t _ _ _ _) => t
  | _ => 0
theorem laid1_get {g : Nat} {T : List V} (hl : laid1 h g T = true) : h.get g = some (.c T (tyOf h g) none true true T.length) := by
  unfold laid1 at hl
  split at hl
  · next cs t fz e =>
    simp only [Bool.and_eq_true] at hl
    obtain ⟨h1, h2⟩ := hl
    have h1 := Nat.eq_of_beq_eq_true h1
    have h2 := V.beqs_eq _ _ h2
    subst h1 h2
    rw [e]; simp [tyOf, e]
  · cases hl
theorem laidH_get (t : Nat → Nat) (n : Nat) : ∀ (L : List (Nat × List V)) (id : Nat) (o : O), (laidH t n L).get id = some o → ∃ T, (id, T) ∈ L ∧ o = .c T (t id) none true true T.length
  | [], id, o, e => by
    have : (none : Option O) = some o := e
    cases this
  | p :: L, id, o, e => by
    have e' : ((laidH t n L).bl.set p.1 (some (.c p.2 (t p.1) none true true p.2.length))).get id = some o := e
    rw [get_set] at e'
    split at e'
    · next hi => cases e'; subst hi; exact ⟨p.2, by simp, rfl⟩
    · obtain ⟨T, a, b⟩ := laidH_get t n L id o e'
      exact ⟨T, List.mem_cons_of_mem _ a, b⟩
theorem laidH_nx (t : Nat → Nat) (n : Nat) : ∀ L : List (Nat × List V), (laidH t n L).nx = n
  | [] => rfl
  | _ :: L => laidH_nx t n L
theorem laidB_mem : ∀ {L : List (Nat × List V)}, laidB h L = true → ∀ p ∈ L, laid1 h p.1 p.2 = true
  | [], _, p, hp => by simp at hp
  | q :: L, hl, p, hp => by
    simp only [laidB, Bool.and_eq_true] at hl
    rcases List.mem_cons.1 hp with e | hp
    · subst e; exact hl.1
    · exact laidB_mem hl.2 p hp
theorem laidH_sub {n : Nat} {L : List (Nat × List V)} (hl : laidB h L = true) (id : Nat) (o : O) (e : (laidH (tyOf h) n L).get id = some o) : h.get id = some o := by
  obtain ⟨T, a, rfl⟩ := laidH_get _ _ _ _ _ e
  exact laid1_get (laidB_mem hl _ a)

/-- Is a list of laid tables as it should be? -/
def laidOK (n : Nat) (L : List (Nat × List V)) : Bool := L.all fun p => Nat.blt p.1 n && V.cls p.2
theorem laidH_fit {t : Nat → Nat} {n : Nat} {L : List (Nat × List V)} (hL : laidOK n L = true) (id : Nat) (o : O) (e : (laidH t n L).get id = some o) : o.ro = true ∧ o.cl = true ∧ id < n := by
  obtain ⟨T, a, rfl⟩ := laidH_get _ _ _ _ _ e
  have := List.all_eq_true.1 hL _ a
  simp only [Bool.and_eq_true] at this
  exact ⟨rfl, this.2, Nat.le_of_ble_eq_true this.1⟩

/-- A table's entry, from a run over the laid variables alone. -/
theorem CallOK.laid {L : List (Nat × List V)} {f : Nat} {args : List V} {v : V} (hL : laidOK P.globals.size L = true)
    (hok : ∀ t : Nat → Nat, ∃ hx, CallOK P f args (laidH t P.globals.size L) v hx) (ha : V.cls args = true) (hv : v.cl = true) (hl : laidB h L = true) : CallOK P f args h v h := by
  obtain ⟨hx, hok⟩ := hok (tyOf h)
  exact hok.frame ha hv (laidH_fit hL) (laidH_nx _ _ _) (laidH_sub hl)

/-! ### The functions without a body -/
theorem byteIx_eq (c : UInt8) : ∀ (l : List UInt8) (k : Nat), byteIx c.toNat l k = if Lib.indexByte l c = -1 then -1 else Lib.indexByte l c + k
  | [], k => by simp [byteIx, Lib.indexByte]
  | x :: l, k => by
    have ih := byteIx_eq c l (k + 1)
    have hge := Lib.indexByte_ge l c
    simp only [byteIx, Lib.indexByte]
    by_cases hx : x = c
    · subst hx; simp
    · have h1 : Nat.beq x.toNat c.toNat = false := by
        cases hb : Nat.beq x.toNat c.toNat
        · rfl
        · exact absurd (UInt8.toNat_inj.1 (Nat.eq_of_beq_eq_true hb)) hx
      have h2 : (x == c) = false := by simpa using hx
      simp only [h1, h2, cond_false, ih, Bool.false_eq_true, if_false, beq_iff_eq]
      split
      · simp_all
      · next h3 =>
        rw [if_neg (by omega)]
        push_cast; omega
theorem byteIx_zero (c : UInt8) (l : List UInt8) : byteIx c.toNat l 0 = Lib.indexByte l c := by
  rw [byteIx_eq]
  split
  · next e => rw [e]
  · simp

theorem callOK_indexByte {f : Nat} {fn : Func} (hf : P.funcs[f]? = some fn) (hname : (fn.name == "runtime.NumGoroutine") = false) (hb : fn.body.isNone = true) (hn : Extern.findNext fn = none)
    (he : Extern.find fn = some Extern.BytealgIndexByte.indexByte) (l : List UInt8) (c : Nat) : CallOK P f [.s l, .i .u8 (.ofNat c)] h (.i .i64 (byteIx (c % 256) l 0)) h := by
  intro σ w xs hw hx
  simp only [concs, conc, Option.some.injEq] at hx
  subst hx
  rw [run_callFunc_extern hf hname hb hn he, Lib.run_indexByteString]
  simp only [Result.andThen, UponR]
  refine ⟨σ, ?_, hw, Ext.refl _ _ _⟩
  simp only [conc]
  have : byteIx (c % 256) l 0 = Lib.indexByte l (Int.toNat (Int.ofNat c)).toUInt8 := by
    rw [← byteIx_zero]
    congr 1
  rw [this]
theorem callOK_same {f : Nat} {fn : Func} (hf : P.funcs[f]? = some fn) (hname : (fn.name == "runtime.NumGoroutine") = false) (hb : fn.body.isNone = true) (hn : Extern.findNext fn = none)
    (he : Extern.find fn = some Extern.AbiNoEscape.same) (a b : Nat) : CallOK P f [.p a b] h (.p a b) h := by
  intro σ w xs hw hx
  obtain ⟨x, ys, h1, h2, rfl⟩ := concs_cons hx
  simp only [concs, Option.some.injEq] at h2
  subst h2
  rw [run_callFunc_extern hf hname hb hn he]
  show UponR P (Result.andThen ((Extern.AbiNoEscape.same #[x]).run P w) _) _
  rw [Lib.run_noEscape]
  simp only [Result.andThen, UponR]
  exact ⟨σ, h1, hw, Ext.refl _ _ _⟩

/-- The table of the bodiless functions. -/
noncomputable def tbX (fi fs : Nat) : Tab := fun f args h =>
  bif Nat.beq f fi then (match args with
    | [.s l, .i .u8 (.ofNat c)] => some (.i .i64 (byteIx (c % 256) l 0), h)
    | _ => none)
  else bif Nat.beq f fs then (match args with
    | [.p a b] => some (.p a b, h)
    | _ => none)
  else none
theorem tbX_ok {fi fs : Nat} {gi gs : Func} (hi : P.funcs[fi]? = some gi) (hi1 : (gi.name == "runtime.NumGoroutine") = false) (hi2 : gi.body.isNone = true) (hi3 : Extern.findNext gi = none)
    (hi4 : Extern.find gi = some Extern.BytealgIndexByte.indexByte) (hs : P.funcs[fs]? = some gs) (hs1 : (gs.name == "runtime.NumGoroutine") = false) (hs2 : gs.body.isNone = true) (hs3 : Extern.findNext gs = none)
    (hs4 : Extern.find gs = some Extern.AbiNoEscape.same) : TabOK P (tbX fi fs) := by
  intro f args h v h' e
  unfold tbX at e
  cases h1 : Nat.beq f fi with
  | true =>
    have := Nat.eq_of_beq_eq_true h1
    subst this
    rw [h1] at e
    simp only [cond_true] at e
    split at e
    · next l c => cases e; exact ⟨callOK_indexByte hi hi1 hi2 hi3 hi4 l c, fun ⟨k, hk⟩ => by simp at hk⟩
    · cases e
  | false =>
    rw [h1] at e
    simp only [cond_false] at e
    cases h2 : Nat.beq f fs with
    | true =>
      have := Nat.eq_of_beq_eq_true h2
      subst this
      rw [h2] at e
      simp only [cond_true] at e
      split at e
      · next a b => cases e; exact ⟨callOK_same hs hs1 hs2 hs3 hs4 a b, fun ⟨k, hk⟩ => by simp at hk⟩
      · cases e
    | false => rw [h2] at e; cases e

/-! ### Tables of answers -/
/-- An answer known: function, arguments, value. -/
abbrev Ans := Nat × List V × V
/-- Looks an answer up. -/
noncomputable def look (f : Nat) (args : List V) : List Ans → Option V
  | [] => none
  | a :: l => bif Nat.beq f a.1 && V.beqs args a.2.1 then some a.2.2 else look f args l
theorem look_mem {f : Nat} {args : List V} {v : V} : ∀ {l : List Ans}, look f args l = some v → (f, args, v) ∈ l
  | [], e => by cases e
  | a :: l, e => by
    simp only [look] at e
    cases hb : Nat.beq f a.1 && V.beqs args a.2.1 with
    | true =>
      rw [hb] at e
      simp only [cond_true, Option.some.injEq] at e
      simp only [Bool.and_eq_true] at hb
      obtain ⟨h1, h2⟩ := hb
      have h1 := Nat.eq_of_beq_eq_true h1
      have h2 := V.beqs_eq _ _ h2
      subst h1 h2 e
      simp
    | false =>
      rw [hb] at e
      exact List.mem_cons_of_mem _ (look_mem e)
/-- Answers of some functions, over the laid variables, in front of another table. -/
noncomputable def tbA (L : List (Nat × List V)) (fl : Nat → Bool) (A : List Ans) (tb : Tab) : Tab := fun f args h =>
  bif fl f then (match look f args A with
    | some v => bif laidB h L then some (v, h) else none
    | none => none)
  else tb f args h
def ansOK (A : List Ans) : Bool := A.all fun a => V.cls a.2.1 && a.2.2.cl
theorem tbA_ok {L : List (Nat × List V)} {fl : Nat → Bool} {A : List Ans} {tb : Tab} (htb : TabOK P tb) (hL : laidOK P.globals.size L = true) (hA : ansOK A = true)
    (hok : ∀ a ∈ A, ∀ t : Nat → Nat, ∃ hx, CallOK P a.1 a.2.1 (laidH t P.globals.size L) a.2.2 hx) : TabOK P (tbA L fl A tb) := by
  intro f args h v h' e
  unfold tbA at e
  cases h1 : fl f with
  | false => rw [h1] at e; exact htb f args h v h' e
  | true =>
    rw [h1] at e
    simp only [cond_true] at e
    split at e
    · next v' hl =>
      cases h2 : laidB h L with
      | false => rw [h2] at e; cases e
      | true =>
        rw [h2] at e
        cases e
        have hm := look_mem hl
        have := List.all_eq_true.1 hA _ hm
        simp only [Bool.and_eq_true] at this
        exact ⟨CallOK.laid hL (hok _ hm) this.1 this.2 h2, fun hk => absurd hk (cls_fy this.1)⟩
    · cases e

/-! ### The code by printed definitions -/
/-- Each function of a trie is what the program's own comes to. -/
def AllTr (Q : Nat → AFn → Prop) : Tr AFn → (Nat → Nat) → Prop
  | .e, _ => True
  | .n l v r, g => (∀ x, v = some x → Q (g 0) x) ∧ AllTr Q l (fun j => g (2 * j + 1)) ∧ AllTr Q r (fun j => g (2 * j + 2))
theorem AllTr.get {Q : Nat → AFn → Prop} : ∀ {t : Tr AFn} {g : Nat → Nat}, AllTr Q t g → ∀ (p : Pa) (x : AFn), t.getP p = some x → Q (g (unpa p)) x
  | .e, g, _, p, x, e => by cases (getP_e (α := AFn) p).symm.trans e
  | .n l v r, g, h, .z, x, e => h.1 x e
  | .n l v r, g, h, .o p, x, e => AllTr.get h.2.1 p x e
  | .n l v r, g, h, .i p, x, e => AllTr.get h.2.2 p x e
theorem fsOK_of {t : Tr AFn} (h : AllTr (fun f af => fsOf P f = some af) t id) : FsOK P (fun k => t.get k) := by
  intro f af e
  have := AllTr.get h (pa f) af e
  rw [show id (unpa (pa f)) = f from unpa_paF _ _ (Nat.le_refl _)] at this
  exact fsOf_ok P f af this
end Go.Proofs.YtgnpoaoekhplhaaGreatDoor.AE
