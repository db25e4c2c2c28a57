/- A part of the proof that croupierlaw11.ModelKnown returns true (its last text says so). No condition of its own. -/
import Derived.Test.YtgnpoaoekhplhaaGreatDoorAn
import Derived.Test.YtgnpoaoekhplhaaGreatDoorCards
import Derived.Test.YtgnpoaoekhplhaaGreatDoorTie
import Derived.ChangeSame
import Derived.Deep.DeepLaidRun
import Derived.WalkKit
import Derived.ProofKit
import Derived.OpenShut
import Derived.Deep.DeepHandedRow
import Derived.Deep.DeepWitnessRowRef
import Derived.Lib.LaidTab
import Derived.Lib.LaidIn
import Derived.Stop.LaidErr
set_option linter.unusedVariables false
set_option linter.unusedSimpArgs false
set_option linter.unusedSectionVars false
/- The seat's common ground: the laid variables in a world, the witness, the step to a row and a card. -/
namespace Go.Proofs.YtgnpoaoekhplhaaGreatDoor.AE.Tst
open Go Go.Proofs.YtgnpoaoekhplhaaGreatDoor.AE Go.Proofs Go.Proofs.YtgnpoaoekhplhaaGreatDoor
open Go.ChangeShapes Go.WideShapes Go.ChangeAt Go.RowKit
set_option maxRecDepth 100000

theorem own : ownKnob Tryz.prog.godebug = none := by kernel_rfl
theorem nglob : Tryz.prog.globals.size = 6 := by kernel_rfl

abbrev laidL : List (String × DataW Unit) := [("math/bits.deBruijn32tab", Rows.laid_math_bits_deBruijn32tab), ("math/bits.deBruijn64tab", Rows.laid_math_bits_deBruijn64tab), ("internal/strconv.uint64pow10", Rows.laid_internal_strconv_uint64pow10), ("strconv.ErrRange", Rows.laid_strconv_ErrRange), ("strconv.ErrSyntax", Rows.laid_strconv_ErrSyntax)]

theorem tabs {W : World} (h : laidMetH Tryz.prog laidL W) :
    Lib.TabIs Tryz.prog W "math/bits.deBruijn32tab" .u8 (z32.map Int.ofNat) ∧ Lib.TabIs Tryz.prog W "math/bits.deBruijn64tab" .u8 (z64.map Int.ofNat) ∧ Lib.TabIs Tryz.prog W "internal/strconv.uint64pow10" .u64 (z10.map Int.ofNat) := by
  have h0 : laidMet Tryz.prog laidL W := h
  have h1 := laidMet.tail h0
  have h2 := laidMet.tail h1
  exact ⟨Lib.tabIs_of_head (g := 4) (t := 263) (by kernel_rfl) (by kernel_rfl) Tryz.underlying263 Tryz.underlying5 (by kernel_rfl) (by kernel_rfl) h0,
    Lib.tabIs_of_head (g := 5) (t := 264) (by kernel_rfl) (by kernel_rfl) Tryz.underlying264 Tryz.underlying5 (by kernel_rfl) (by kernel_rfl) h1,
    Lib.tabIs_of_head (g := 0) (t := 248) (by kernel_rfl) (by kernel_rfl) Tryz.underlying248 Tryz.underlying158 (by kernel_rfl) (by kernel_rfl) h2⟩

theorem blk_of_tab {P : Program} {W : World} {name : String} {k : IntKind} {zs : List Int} {g : Nat} (h : Lib.TabIs P W name k zs) (hg : P.globalNamed name = some g) :
    ∃ ty fr, W.heap[g]? = some (.cells (zs.map fun z => Value.int k z).toArray ty fr) := by
  unfold Lib.TabIs World.var? at h
  rw [hg] at h
  simp only [Option.bind_some] at h
  split at h
  · next cs ty fr e => cases h; exact ⟨ty, fr, e⟩
  · cases h

theorem blkOK_tab {P : Program} {W : World} {k : IntKind} {l : List Nat} {g ty : Nat} {fr : Nat × Nat} (σ : Sg) (h : W.heap[g]? = some (.cells ((l.map Int.ofNat).map fun z => Value.int k z).toArray ty fr)) :
    BlkOK P σ W ⟨g, 0, 0, 1⟩ (.c (tabU k l) ty none true true (tabU k l).length) := by
  refine ⟨_, fr.1, fr.2, h, fun i v hv => ?_, fun e => (by cases e), fun e => (by cases e), rfl, by simp [tabU]⟩
  · simp only [tabU, List.getElem?_map, Option.map_eq_some_iff] at hv
    obtain ⟨n, hn, rfl⟩ := hv
    exact ⟨.int k (Int.ofNat n), by simp only [conc], by simp [hn]⟩

def sg0 : Sg := fun id => if id < 6 then some ⟨id, 0, 0, 1⟩ else none
noncomputable def tyW (W : World) (g : Nat) : Nat := match W.heap[g]? with
  | some (.cells _ t _) => t
  | _ => 0

theorem wr0 {W : World} (h : laidMetH Tryz.prog laidL W) : WR Tryz.prog sg0 (laidH (tyW W) 6 L11) W := by
  obtain ⟨h4, h5, h0⟩ := tabs h
  obtain ⟨t4, f4, e4⟩ := blk_of_tab h4 (g := 4) (by kernel_rfl)
  obtain ⟨t5, f5, e5⟩ := blk_of_tab h5 (g := 5) (by kernel_rfl)
  obtain ⟨t0, f0, e0⟩ := blk_of_tab h0 (g := 0) (by kernel_rfl)
  have hfit : ∀ id o, (laidH (tyW W) 6 L11).get id = some o → id < 6 := fun id o ho => (laidH_fit (by kernel_rfl) id o ho).2.2
  refine ⟨fun id o ho => ?_, fun id id' o o' pl pl' h1 h2 hr g1 g2 eb => ?_, fun id hid => ?_, fun g hg => ?_⟩
  · have hid := hfit id o ho
    obtain ⟨T, hm, rfl⟩ := laidH_get _ _ _ _ _ ho
    refine ⟨⟨id, 0, 0, 1⟩, by simp [sg0, hid], ?_⟩
    simp only [L11, List.mem_cons, Prod.mk.injEq, List.not_mem_nil, or_false] at hm
    rcases hm with ⟨rfl, rfl⟩ | ⟨rfl, rfl⟩ | ⟨rfl, rfl⟩
    · have : tyW W 0 = t0 := by simp only [tyW, e0]
      rw [this]; exact blkOK_tab (l := z10) sg0 e0
    · have : tyW W 4 = t4 := by simp only [tyW, e4]
      rw [this]; exact blkOK_tab (l := z32) sg0 e4
    · have : tyW W 5 = t5 := by simp only [tyW, e5]
      rw [this]; exact blkOK_tab (l := z64) sg0 e5
  · have a1 := hfit id o h1; have a2 := hfit id' o' h2
    simp only [sg0, a1, a2, if_true, Option.some.injEq] at g1 g2
    subst g1 g2; exact eb
  · simp only [sg0]
    rw [if_neg]
    rw [laidH_nx] at hid; omega
  · rw [nglob] at hg
    simp [sg0, hg]

/-- What a law's row asks, from the evaluator's answer. -/
theorem law_calls {fs : Nat → Option AFn} {tb : Tab} (hfs : FsOK Tryz.prog fs) (htb : TabOK Tryz.prog tb) {f : Nat} {args : List V} {n : Nat} {h : Hp} {σ : Sg} {W : World}
    (hent : Enters Tryz.prog f) (hv : isT (ev fs tb n (.call f args h)) = true) (hw : WR Tryz.prog σ h W) (hro : ∀ id o, h.get id = some o → o.ro = true) {xs : List Value} (hx : concs σ args = some xs) :
    Calls Tryz.prog f xs.toArray W fun e W' => e = .returned (.bool true) ∧ Grew W W' := by
  cases hr : ev fs tb n (.call f args h) with
  | none => rw [hr] at hv; cases hv
  | some r =>
    rw [hr] at hv
    cases r with
    | code _ _ => cases hv
    | val v h' =>
      have hb : ∃ b, v = .b b ∧ b = true := by
        cases v <;> first | (exact ⟨_, rfl, hv⟩) | (exfalso; cases hv)
      obtain ⟨b, rfl, rfl⟩ := hb
      refine (calls_of_ev hfs htb hent hr hw hx).mono ?_
      rintro e w' ⟨x, rfl, σ', c1, c2, c3⟩
      simp only [conc, Option.some.injEq] at c1
      subst c1
      exact ⟨rfl, c3.grew hro⟩

/-! ### The witness: the settled world, the laid variables as their initialisers lay them -/
abbrev rangeS : ByteArray := { data := #[118, 97, 108, 117, 101, 32, 111, 117, 116, 32, 111, 102, 32, 114, 97, 110, 103, 101] }
abbrev syntaxS : ByteArray := { data := #[105, 110, 118, 97, 108, 105, 100, 32, 115, 121, 110, 116, 97, 120] }
noncomputable def low : Nat := (World.holding Tryz.prog default ⟨#[], #[], []⟩).heap.size
noncomputable def laidWorld (os : Os) : World :=
  let w0 := World.holding Tryz.prog os ⟨#[.cells #[.string rangeS] 260, .cells #[.string syntaxS] 260], #[], []⟩
  let put (h : Array Obj) (g : Nat) (cs : Array Value) : Array Obj := h.modify g fun
    | .cells _ t frozen => .cells cs t frozen
    | o => o
  let h1 := put w0.heap 4 (z32.map fun (z : Nat) => Value.int .u8 z).toArray
  let h2 := put h1 5 (z64.map fun (z : Nat) => Value.int .u8 z).toArray
  let h3 := put h2 0 (z10.map fun (z : Nat) => Value.int .u64 z).toArray
  let h4 := put h3 2 #[.iface 258 (.pointer (some ⟨low, 0, none⟩))]
  let h5 := put h4 1 #[.iface 258 (.pointer (some ⟨low + 1, 0, none⟩))]
  { w0 with heap := h5 }
theorem laid_met (os : Os) (args : Array Value) : laidMet Tryz.prog laidL ((laidWorld os).forCall (fun _ _ => 0) ⟨#[], args, []⟩).memory :=
  laidMet_of_run3 8 (by kernel_rfl) (by kernel_rfl) (by kernel_rfl)

/-! ### What a row's postcondition asks, from `Grew` -/
section
variable {H : Type} {enc : TypeId × Value → H} {P : Program}
theorem post_of_grew {f : Func} {s : ChangeSpec} {apart fresh handsOn again : Bool} {W W' : World} {args : Array Value} {v : Value} {ds gs : List (DataW H)} {before pa pv : List MemPlace}
    (hW : DataW.Whole enc P f.params.toList s.vars apart W args.toList ds gs before)
    (hres : ∀ (b : Nat) (sp : Nat → Bool) (hd : Bool), DataW.TrodAll enc P W' b sp hd f.resultTypes.toList (v.resultList f.resultTypes.size) (s.fn H (ds ++ gs)).results [])
    (hargs : ∀ sp : Nat → Bool, (∀ p ∈ before, sp p.block = true) → DataW.TrodAll enc P W' 0 sp true f.params.toList args.toList (s.fn H (ds ++ gs)).args pa)
    (hvars : ∀ sp : Nat → Bool, (∀ p ∈ before, sp p.block = true) → DataW.TrodVars enc P W' sp s.vars (s.fn H (ds ++ gs)).vars pv)
    (hps : before = pa ++ pv) (hk : Grew W W')
    (hok : ∀ (j : Nat) (t : TypeId) (r : Value), f.resultTypes[j]? = some t → (v.resultList f.resultTypes.size)[j]? = some r → Value.okWide P W' .any 0 t r) :
    s.post enc P f apart fresh handsOn again W args v W' := by
  have hold : ∀ p ∈ before, (fun b => decide (b < W.heap.size)) p.block = true := fun p hp => by simpa using hW.lt p hp
  have hlt : ∀ p ∈ before, p.block < W.heap.size := hW.lt
  refine ⟨ds, gs, before, [], pa, pv, hW, hres _ _ _, hargs _ hold, hvars _ hold, World.keptBut_mono (fun p hp => hp.elim) hk.1, fun _ => ?_⟩
  obtain ⟨_, _, _, _, _, hz, hn⟩ := hW
  refine ⟨hok, _, _, ([] ++ pa) ++ pv, ⟨[] ++ pa, pv, trodAll_append (hargs _ (fun _ _ => rfl)) (hres _ _ _), hvars _ (fun _ _ => rfl), rfl, ?_, ?_⟩, ?_⟩
  · intro b off hp
    have hp' : (MemPlace.cell b off) ∈ before := by rw [hps]; simpa using hp
    rw [hk.2.1 _ (hlt _ hp')]
    exact hz b off hp'
  · intro ha
    have := hn ha
    rw [hps] at this
    simpa using this
  · intro p hp _
    rw [hps]
    simpa using hp
end
end Go.Proofs.YtgnpoaoekhplhaaGreatDoor.AE.Tst
