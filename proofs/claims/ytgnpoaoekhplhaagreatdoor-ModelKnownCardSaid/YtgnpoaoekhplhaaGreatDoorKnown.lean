/- croupierlaw11.ModelKnown returns true, whatever the world, provided that the listed package variables are as their initialisers lay them (the row says so, the card ties it to the text). -/
import Derived.Test.YtgnpoaoekhplhaaGreatDoorKn
import Derived.Test.YtgnpoaoekhplhaaGreatDoorFe
import Derived.Test.YtgnpoaoekhplhaaGreatDoorRt
set_option linter.unusedVariables false
set_option linter.unusedSimpArgs false
set_option linter.unusedSectionVars false
/- croupierlaw11.ModelKnown returns true, in every world in which the laid package variables are as their initialisers lay them. -/
namespace Go.Proofs.YtgnpoaoekhplhaaGreatDoor.AE
open Go
section
variable {P : Program} {w w' : World} {σ σ' : Sg} {h h' : Hp}
theorem BlkOK.down {pl : Pl} {o : O} (hl : σ.le σ') (a : BlkOK P σ w pl o) (b : BlkOK P σ' w' pl o) : BlkOK P σ w' pl o := by
  cases o with
  | c cs ty op ro sb fz =>
    obtain ⟨C, lo, hi, h1, h2, h3, h4, h5⟩ := b
    obtain ⟨C0, lo0, hi0, g1, g2, _⟩ := a
    refine ⟨C, lo, hi, h1, fun i v hv => ?_, h3, h4, h5⟩
    obtain ⟨x0, x1, _⟩ := g2 i v hv
    obtain ⟨y, y1, y2⟩ := h2 i v hv
    rw [conc_mono hl v x0 x1] at y1
    cases y1
    exact ⟨x0, x1, y2⟩
  | l st pend tm ps a' b' df =>
    obtain ⟨r, nt, pd, h1, h2, h3, h4, h5, h6, h7, h8, h9, h10, h11⟩ := b
    obtain ⟨r0, nt0, pd0, g1, g2, g3, g4, g5, g6, g7, g8, g9, g10, g11⟩ := a
    have e := hl _ _ g10
    rw [h10] at e
    cases e
    refine ⟨r, nt, pd, h1, h2, h3, fun t v hv => ?_, h5, h6, h7, h8, h9, g10, h11⟩
    obtain ⟨x0, x1, _⟩ := g4 t v hv
    obtain ⟨y, y1, y2⟩ := h4 t v hv
    rw [conc_mono hl v x0 x1] at y1
    cases y1
    exact ⟨x0, x1, y2⟩
  | d => exact b
/-- A call that only adds to the heap, and whose answer bears no pointer: what it adds may be forgotten. -/
theorem CallOK.shrink {f : Nat} {args : List V} {v : V} (H : h.Ok → ∃ h', CallOK P f args h v h' ∧ ∀ id o, h.get id = some o → h'.get id = some o) (hv : v.cl = true) : CallOK P f args h v h := by
  intro σ w xs hw hx
  obtain ⟨h', hok, hk⟩ := H (fun id hid => by
    cases e : h.get id with
    | none => rfl
    | some o =>
      obtain ⟨pl, e1, _⟩ := hw.blk id o e
      rw [hw.dom id hid] at e1; cases e1)
  refine (hok σ w xs hw hx).mono ?_
  rintro x w' ⟨σ', c1, c2, c3⟩
  refine ⟨σ, (conc_cl σ σ' v hv).trans c1, ⟨fun id o ho => ?_, hw.inj, hw.dom, hw.glob⟩, ⟨Sg.le_refl σ, c3.size, c3.keep, fun _ _ h => h, fun _ _ h => h, Nat.le_refl _, fun _ _ => rfl, c3.tape, c3.os, c3.output⟩⟩
  obtain ⟨pl, e1, e2⟩ := hw.blk id o ho
  obtain ⟨pl', e1', e2'⟩ := c2.blk id o (hk _ _ ho)
  have e := c3.le _ _ e1
  rw [e1'] at e
  cases e
  exact ⟨pl, e1, e2.down c3.le e2'⟩
theorem enters_of {f : Nat} {fn : Func} {af : AFn} (hf : P.funcs[f]? = some fn) (hc : cFn P fn = some af) : Enters P f := by
  unfold cFn at hc
  split at hc
  · cases hc
  next c hbody =>
  split at hc
  next rs b hrs hb =>
    split at hc
    · next hnp =>
      obtain ⟨hnp, hname⟩ := hnp
      intro args w
      have h1 : fn.name ≠ "runtime.NumGoroutine" := by simpa using hname
      simp [callFunc, hf, h1, hbody, Sem.run_bind, Sem.run_pure, Result.andThen, Sem.run, program]
    · cases hc
  · cases hc
end
end Go.Proofs.YtgnpoaoekhplhaaGreatDoor.AE
namespace Go.Proofs.YtgnpoaoekhplhaaGreatDoor.AE.Tst
open Go Go.Proofs.YtgnpoaoekhplhaaGreatDoor.AE Go.Proofs Go.Proofs.YtgnpoaoekhplhaaGreatDoor
open Go.ChangeShapes Go.WideShapes Go.ChangeAt Go.RowKit
set_option maxRecDepth 100000

/-! ### The tables are sound -/
theorem tbx_ok : TabOK Tryz.prog tbx :=
  tbX_ok Tryz.func212 (by kernel_rfl) (by kernel_rfl) (by kernel_rfl) (by kernel_rfl) Tryz.func193 (by kernel_rfl) (by kernel_rfl) (by kernel_rfl) (by kernel_rfl)
theorem tbw_ok : TabOK Tryz.prog tbw := by
  refine tbA_ok tbx_ok (by rw [nglob]; kernel_rfl) (by kernel_rfl) ?_
  intro a ha t
  have e := ans_all t a ha
  rw [nglob]
  cases hr : ev fs11 tbx 1000 (.call a.1 a.2.1 (laidH t 6 L11)) with
  | none => rw [hr] at e; cases e
  | some r =>
    rw [hr] at e
    cases r with
    | code _ _ => cases e
    | val x hx =>
      have := V.beq_eq _ _ e
      subst this
      exact ⟨hx, (ev_sound fsok tbx_ok 1000 _ _ hr).1⟩
theorem tbM_ok : TabOK Tryz.prog tbM := by
  intro f args h v h' e
  rcases tbM_spec e with e | ⟨rfl, hv, hk, H⟩
  · exact tbw_ok f args h v h' e
  · refine ⟨CallOK.shrink (fun ok => ?_) hv, fun hx => absurd hx hk⟩
    obtain ⟨v', h'', e1, rfl, g⟩ := (H ok).elim
    exact ⟨h'', (EV_sound fs11 tbw fsok tbw_ok _ _ e1).1, g.keep⟩
theorem tbK_ok : TabOK Tryz.prog tbK := by
  refine tbA_ok tbM_ok (by rw [nglob]; kernel_rfl) (by kernel_rfl) ?_
  intro a ha t
  obtain rfl : a = (25, [], .b true) := by simpa [AW] using ha
  have e := works t
  rw [nglob]
  cases hr : ev fs11 tbw 10000 (.call 25 [] (laidH t 6 L11)) with
  | none => rw [hr] at e; cases e
  | some r =>
    rw [hr] at e
    cases r with
    | code _ _ => cases e
    | val x hx =>
      have hb : x = .b true := by
        cases x <;> first | (exact congrArg V.b e) | (exfalso; cases e)
      subst hb
      exact ⟨hx, (ev_sound fsok tbw_ok 10000 _ _ hr).1⟩

theorem known_calls (W : World) (hL : laidMetH Tryz.prog laidL W) : Calls Tryz.prog 3 #[] W fun e W' => e = .returned (.bool true) ∧ Grew W W' := by
  obtain ⟨fn, hfn, hc⟩ := fsok 3 f3 (by rfl)
  have hro : ∀ id o, (laidH (tyW W) 6 L11).get id = some o → o.ro = true := fun id o ho => (laidH_fit (by kernel_rfl) id o ho).1
  exact law_calls fsok tbK_ok (enters_of hfn hc) (known (tyW W)) (wr0 hL) hro (xs := []) rfl

/-! ### The row and the card -/
theorem reads (os : Os) {H : Type} (enc : TypeId × Value → H) : ∃ places, DataW.whole enc Tryz.prog ((laidWorld os).forCall (fun _ _ => 0) ⟨#[], #[], []⟩).memory Tryz.f3.params.toList Rows.modelKnownSpec.vars false (#[] : Array Value).toList 8 = some ([], [], places) :=
  ⟨[], by kernel_rfl⟩
theorem lifted (os : Os) (started : os.Started) (H : Type) (enc : TypeId × Value → H) (F : Stop.Interp) :
    ReturnsInHanded {} Tryz.checked os 3 .any ((OpenSpec.ofChange Rows.modelKnownSpec).preRow enc Tryz.prog Tryz.f3 Rows.modelKnownRow.domain false Rows.modelKnownRow.laid) (((OpenSpec.ofChange Rows.modelKnownSpec).at F).post enc Tryz.prog Tryz.f3 false true false false) := by
  obtain ⟨places, hx⟩ := reads os enc
  refine returnsInHanded_of_row (C := Tryz.checked) (s := OpenSpec.ofChange Rows.modelKnownSpec) own started (by kernel_rfl) Tryz.func3
    (witness_row_atRef (enc := enc) (C := Tryz.checked) false (laidWorld os) #[] rfl (by kernel_rfl) (by kernel_rfl) (by kernel_rfl)
      (OpenSpec.preRow_of_cond 8 hx (by kernel_rfl) (fun k hk => by cases hk) (by kernel_rfl) (laid_met os #[]))) ?_
  intro W base args ds gs before hval hW _ _ _ hL _ _
  have hW' := hW
  obtain ⟨p, q, hA0, hV, rfl, hfz, hnd⟩ := hW
  have hA : DataW.TrodAll enc Tryz.prog W 0 (fun _ => true) true Tryz.f3.params.toList args.toList ds p := hA0
  rw [Tryz.params3] at hA
  obtain ⟨hargs, rfl, rfl⟩ := trodAll_nil hA
  obtain rfl : args = #[] := by cases args; simp_all
  obtain ⟨rfl, rfl⟩ := trodVars_none hV
  refine (known_calls W hL).mono fun e W' ⟨he, hg⟩ => ?_
  subst he
  exact ⟨_, rfl, post_of_grew (pa := []) (pv := []) hW' (fun _ _ _ => trodAll_cons_mk (shut_bool Tryz.underlying4 _) trodAll_mk0) (fun _ _ => trodAll_mk0) (fun _ _ => rfl) rfl
    hg (ok_one (by kernel_rfl) rfl (okWide_bool_mk Tryz.underlying4 _))⟩
theorem said : Rows.ModelKnownSaid :=
  OpenClaim.holds_of_cond 3 Tryz.f3 rfl rfl rfl rfl rfl rfl rfl ⟨rfl, rfl, rfl, rfl, rfl⟩ rfl rfl rfl rfl rfl (by kernel_rfl) Tryz.func3 (by kernel_rfl)
    (of_decide_eq_true (by kernel_rfl)) (by unfold Func.isWrapper; first | (rw [if_pos (by decide +kernel)]; kernel_rfl) | (rw [if_neg (by decide +kernel)]; exact ⟨rfl, rfl⟩))
    (fun os started H enc _ F => by rw [OpenClaim.pre_eq_preRow]; exact lifted os started H enc F)
theorem plain (f : FuncId) (fn : Func) (hf : Tryz.pinned.checked.prog.funcNamed "croupier/croupierlaw11.ModelKnown" = some f) (hfn : Tryz.pinned.checked.prog.funcs[f]? = some fn) :
    true = Tryz.pinned.checked.prog.looks [] ∧ ∀ (j : Nat) t, fn.params[j]? = some t → Tryz.pinned.checked.prog.wantsStandIn t = false := by
  obtain rfl : f = 3 := Option.some.inj ((show Tryz.prog.funcNamed "croupier/croupierlaw11.ModelKnown" = some 3 by kernel_rfl).symm.trans hf) |>.symm
  obtain rfl : fn = Tryz.f3 := (Option.some.inj (Tryz.func3.symm.trans hfn)).symm
  refine ⟨by kernel_rfl, fun j t ht => ?_⟩
  rw [Tryz.params3] at ht
  simp at ht
/-- The card. -/
theorem modelKnown_card : Rows.ModelKnownCardSaid :=
  Claim7.holds_tied_plain_at .later [] _ _ _ _ said (fun _ h => by cases h) (by kernel_rfl) (fun _ h => by cases h) modelKnown_row_tie rfl ⟨rfl, rfl⟩ (by kernel_rfl) rfl plain (by kernel_rfl)
end Go.Proofs.YtgnpoaoekhplhaaGreatDoor.AE.Tst
