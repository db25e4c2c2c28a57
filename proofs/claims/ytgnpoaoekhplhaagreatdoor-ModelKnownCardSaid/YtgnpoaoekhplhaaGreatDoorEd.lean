/- A part of the proof that croupierlaw11.ModelKnown returns true (its last text says so). No condition of its own. -/
import Derived.Test.YtgnpoaoekhplhaaGreatDoorEc
import Derived.Orders
set_option linter.unusedVariables false
set_option linter.unusedSimpArgs false
set_option linter.unusedSectionVars false
namespace Go.Proofs.YtgnpoaoekhplhaaGreatDoor.AE
open Go
variable {P : Program} {w w' : World} {σ σ' : Sg} {tm tm' : Tm} {a : Act} {h h' : Hp}

mutual
theorem V.beq_eq : ∀ (x y : V), V.beq x y = true → x = y
  | .b x, y, e => by cases y <;> simp_all [V.beq]
  | .i k n, y, e => by cases y <;> simp_all [V.beq]
  | .s l, y, e => by cases y <;> simp_all [V.beq]
  | .pn, y, e => by cases y <;> simp_all [V.beq]
  | .p a o, y, e => by cases y <;> simp_all [V.beq]
  | .sn, y, e => by cases y <;> simp_all [V.beq]
  | .sl a o l c, y, e => by cases y <;> simp_all [V.beq]
  | .fn f a c, y, e => by
    cases y with
    | fn f' a' c' =>
      simp only [V.beq, Bool.and_eq_true] at e
      obtain ⟨⟨e1, e2⟩, e3⟩ := e
      rw [Nat.eq_of_beq_eq_true e1, V.beqs_eq _ _ e2, V.beqs_eq _ _ e3]
    | _ => simp [V.beq] at e
  | .fy a, y, e => by cases y <;> simp_all [V.beq]
  | .fnil, y, e => by cases y <;> simp_all [V.beq]
  | .inil, y, e => by cases y <;> simp_all [V.beq]
  | .ag l, y, e => by
    cases y with
    | ag m => simp only [V.beq] at e; rw [V.beqs_eq _ _ e]
    | _ => simp [V.beq] at e
  | .tu l, y, e => by
    cases y with
    | tu m => simp only [V.beq] at e; rw [V.beqs_eq _ _ e]
    | _ => simp [V.beq] at e
theorem V.beqs_eq : ∀ (x y : List V), V.beqs x y = true → x = y
  | [], [], _ => rfl
  | [], _ :: _, e => by simp [V.beqs] at e
  | _ :: _, [], e => by simp [V.beqs] at e
  | x :: l, y :: m, e => by
    simp only [V.beqs, Bool.and_eq_true] at e
    rw [V.beq_eq _ _ e.1, V.beqs_eq _ _ e.2]
end

/-! ### What an operation reads of the temporaries -/
def Agree (l : List Nat) (tm tm' : Tm) : Prop := ∀ t ∈ l, tm.get t = tm'.get t
theorem Agree.l {x y : List Nat} (h : Agree (x ++ y) tm tm') : Agree x tm tm' := fun t ht => h t (List.mem_append_left _ ht)
theorem Agree.r {x y : List Nat} (h : Agree (x ++ y) tm tm') : Agree y tm tm' := fun t ht => h t (List.mem_append_right _ ht)

theorem ev_congr {x : AO} (h : Agree x.rd tm tm') : x.ev tm = x.ev tm' := by
  cases x with
  | t n => exact h n (by simp [AO.rd])
  | _ => rfl
theorem evO_congr {x : Option AO} (h : Agree (rdO x) tm tm') : evO x tm = evO x tm' := by
  cases x with
  | none => rfl
  | some x => have := ev_congr (x := x) h; simp only [evO, this]
theorem evs_congr : ∀ {l : List AO}, Agree (rds l) tm tm' → evs l tm = evs l tm'
  | [], _ => rfl
  | x :: l, h => by
    have h' : Agree (x.rd ++ rds l) tm tm' := by simpa [rds] using h
    rw [evs_cons, evs_cons, ev_congr h'.l, evs_congr h'.r]

theorem evParts_congr : ∀ {l : List (Nat × Nat × AO)}, Agree (rds (l.map fun p => p.2.2)) tm tm' → evParts l tm = evParts l tm'
  | [], _ => rfl
  | x :: l, h => by
    have h' : Agree (x.2.2.rd ++ rds (l.map fun p => p.2.2)) tm tm' := by simpa [rds] using h
    show consO (partO x.1 x.2.1 (x.2.2.ev tm)) (evParts l tm) = consO (partO x.1 x.2.1 (x.2.2.ev tm')) (evParts l tm')
    rw [ev_congr h'.l, evParts_congr h'.r]

theorem wanted_congr {g : Option (Nat × Bool)} (hg : ∀ t b, g = some (t, b) → tm.get t = tm'.get t) : wanted g tm = wanted g tm' := by
  cases g with
  | none => rfl
  | some p => obtain ⟨t, b⟩ := p; simp only [wanted, hg t b rfl]

theorem qev_congr {op : AOp} (hr : Agree op.rd tm tm') : qev op tm h = qev op tm' h := by
  cases op <;> simp only [qev]
  all_goals simp only [AOp.rd] at hr
  all_goals first
    | rfl
    | rw [ev_congr hr]
    | rw [evs_congr hr]
    | rw [evParts_congr hr]
    | rw [ev_congr hr.l, ev_congr hr.r]
    | rw [evs_congr hr.l, evs_congr hr.r]
    | rw [ev_congr hr.l.l, ev_congr hr.l.r, ev_congr hr.r]
    | rw [ev_congr hr.l.l.l, evO_congr hr.l.l.r, evO_congr hr.l.r, evO_congr hr.r]

theorem aev_congr {op : AOp} (hr : Agree op.rd tm tm') : aev op tm = aev op tm' := by
  cases op <;> simp only [aev]
  all_goals simp only [AOp.rd] at hr
  all_goals first
    | rfl
    | rw [ev_congr hr]
    | rw [evParts_congr hr]
    | rw [ev_congr hr.l, ev_congr hr.r]

theorem fev_congr {rec : RecT} {op : AOp} (hr : Agree op.rd tm tm') : fev op rec tm h = fev op rec tm' h := by
  cases op <;> simp only [fev, eev]
  all_goals simp only [AOp.rd] at hr
  all_goals first
    | rfl
    | rw [ev_congr hr]
    | rw [evs_congr hr]
    | rw [ev_congr hr.l, ev_congr hr.r]
    | rw [ev_congr hr.l, evs_congr hr.r]
    | skip

theorem oev_congr {rec : RecT} {op : AOp} (hr : Agree op.rd tm tm') : oev op rec tm h = oev op rec tm' h := by
  rcases kindOf_cases op with hk | hk | hk
  · simp only [oev, hk, qev_congr hr]
  · simp only [oev, hk, aev_congr hr]
  · simp only [oev, hk, fev_congr hr]

def AgreeO (o : AOper) (tm tm' : Tm) : Prop := ∀ t, o.reads t = true → tm.get t = tm'.get t
theorem AgreeO.op {o : AOper} (h : AgreeO o tm tm') : Agree o.op.rd tm tm' := fun t ht => h t (by simp [AOper.reads, ht])
theorem AgreeO.gd {o : AOper} (h : AgreeO o tm tm') : wanted o.gd tm = wanted o.gd tm' := by
  refine wanted_congr (fun t b e => h t ?_)
  simp [AOper.reads, e]

theorem gev_congr {rec : RecT} {o : AOper} (hr : AgreeO o tm tm') : gev o rec tm h = gev o rec tm' h := by
  have h2 := hr.gd
  cases hg : o.gd with
  | none => simp only [gev, hg]; exact oev_congr hr.op
  | some g =>
    rw [hg] at h2
    simp only [gev, hg, oev_congr hr.op, h2]

/-! ### What an operation reads of memory -/
theorem qev_calm {op : AOp} (hq : heapy op = false) : qev op tm h = qev op tm h' := by
  cases op <;> simp only [heapy] at hq <;> try (cases hq; done)
  all_goals first
    | rfl
    | skip
  case cv k x => cases k <;> first | (cases hq; done) | (simp only [qev, cvV]; done) | (simp only [qev, cvV]; generalize x.ev tm = y; cases y with
    | none => rfl
    | some y => cases y <;> rfl)

theorem isV_eq {v : V} {x : Option V} (e : isV v x = true) : x = some v := by
  unfold isV at e
  split at e
  · rw [V.beq_eq _ _ e]
  · cases e

theorem same_spec {o : AOper} {v : V} : ∀ (hs : List Hp) (j : Nat), same o tm v j hs = true → ∀ i g, hs[i]? = some g → i ≤ j → o.lo ≤ j - i → j - i ≤ o.hi → qev o.op tm g = some v
  | [], j, _, i, g, hg, _, _, _ => by simp at hg
  | x :: l, j, e, i, g, hg, hij, h1, h2 => by
    simp only [same, Bool.and_eq_true] at e
    cases i with
    | zero =>
      simp at hg
      subst hg
      have := e.1
      rw [Nat.ble_eq_true_of_le (by simpa using h1), Nat.ble_eq_true_of_le (by simpa using h2)] at this
      exact isV_eq this
    | succ i =>
      exact same_spec l (j - 1) e.2 i g (by simpa using hg) (by omega) (by omega) (by omega)

theorem checkRecs_spec {n : Nat} {hs : List Hp} : ∀ {rs : List Rec}, checkRecs n hs rs = true → ∀ r ∈ rs, same r.o r.tm r.v n hs = true
  | [], _, r, hr => by cases hr
  | x :: l, e, r, hr => by
    simp only [checkRecs] at e
    cases hx : same x.o x.tm x.v n hs with
    | false => rw [hx] at e; cases e
    | true =>
      rw [hx] at e
      rcases List.mem_cons.1 hr with rfl | h
      · exact hx
      · exact checkRecs_spec e r h

end Go.Proofs.YtgnpoaoekhplhaaGreatDoor.AE
namespace Go.Proofs.YtgnpoaoekhplhaaGreatDoor.AE
open Go
variable {P : Program} {w w' : World} {σ σ' : Sg} {tm tm' : Tm} {a : Act} {h h' : Hp}

/-- The number of effects among the first k operations. -/
def cntE : List AOper → Nat → Nat
  | [], _ => 0
  | _ :: _, 0 => 0
  | o :: l, k + 1 => (if kindOf o.op = 2 then 1 else 0) + cntE l k

theorem cntE_zero (l : List AOper) : cntE l 0 = 0 := by cases l <;> rfl
theorem cntE_mono : ∀ (l : List AOper) {k k' : Nat}, k ≤ k' → cntE l k ≤ cntE l k'
  | [], _, _, _ => Nat.le_refl _
  | o :: l, 0, k', _ => Nat.zero_le _
  | o :: l, k + 1, 0, hk => by omega
  | o :: l, k + 1, k' + 1, hk => by simp only [cntE]; have := cntE_mono l (k := k) (k' := k') (by omega); omega
theorem cntE_le : ∀ (l : List AOper) (k : Nat), cntE l k ≤ cntE l l.length
  | [], _ => Nat.le_refl _
  | o :: l, 0 => Nat.zero_le _
  | o :: l, k + 1 => by simp only [cntE, List.length_cons]; have := cntE_le l k; omega

theorem runOpsD_nil (base : Nat) (rec : RecT) (tm : Tm) (h : Hp) (n : Nat) (hs : List Hp) (rs : List Rec) : runOpsD [] base rec tm h n hs rs = bif checkRecs n hs rs then some (tm, h) else none := rfl
theorem runOpsD_cons (o : AOper) (l : List AOper) (base : Nat) (rec : RecT) (tm : Tm) (h : Hp) (n : Nat) (hs : List Hp) (rs : List Rec) :
    runOpsD (o :: l) base rec tm h n hs rs = thenO (gevD o base rec tm h) fun v h' => goD o (runOpsD l) base rec tm n hs rs v h' := rfl

theorem recsOf_mem {o : AOper} {tm : Tm} {v : V} {rs : List Rec} : (∀ r ∈ rs, r ∈ recsOf o tm v rs) ∧ (heapy o.op = true → wanted o.gd tm = some true → (⟨o, tm, v⟩ : Rec) ∈ recsOf o tm v rs) := by
  cases hh : heapy o.op with
  | false => simp only [recsOf, hh, cond_false]; exact ⟨fun r hr => hr, fun e => by cases e⟩
  | true =>
    simp only [recsOf, hh, cond_true]
    refine ⟨fun r hr => ?_, fun _ e => ?_⟩
    · unfold addRec; split
      · exact List.mem_cons_of_mem _ hr
      · exact hr
    · rw [e]; simp [addRec]

structure TraceC (l : List AOper) (base : Nat) (rec : RecT) (TM : Nat → Tm) (HH : Nat → Hp) (VV : Nat → V) : Prop where
  step : ∀ k o, l[k]? = some o → gevD o base rec (TM k) (HH k) = some (VV k, HH (k + 1)) ∧ TM (k + 1) = Tm.puts o.dst (TM k) (VV k)

theorem runOpsD_trace : ∀ (l : List AOper) (base : Nat) (rec : RecT) (tm : Tm) (h : Hp) (n : Nat) (hs : List Hp) (rs : List Rec) (tm' : Tm) (h' : Hp), runOpsD l base rec tm h n hs rs = some (tm', h') →
    ∃ (TM : Nat → Tm) (HH : Nat → Hp) (VV : Nat → V) (hsF : List Hp) (rsF : List Rec), TM 0 = tm ∧ HH 0 = h ∧ TM l.length = tm' ∧ HH l.length = h' ∧ TraceC l base rec TM HH VV ∧
      checkRecs (n + cntE l l.length) hsF rsF = true ∧ (∀ r ∈ rs, r ∈ rsF) ∧
      (∀ k o, l[k]? = some o → kindOf o.op = 0 → heapy o.op = true → wanted o.gd (TM k) = some true → (⟨o, TM k, VV k⟩ : Rec) ∈ rsF) ∧
      (∀ i g, hs[i]? = some g → hsF[i + cntE l l.length]? = some g) ∧
      (∀ k o, l[k]? = some o → kindOf o.op = 2 → hsF[cntE l l.length - cntE l (k + 1)]? = some (HH (k + 1)))
  | [], base, rec, tm, h, n, hs, rs, tm', h', hr => by
    rw [runOpsD_nil] at hr
    cases hc : checkRecs n hs rs with
    | false => rw [hc] at hr; cases hr
    | true =>
      rw [hc] at hr; cases hr
      exact ⟨fun _ => tm, fun _ => h, fun _ => .pn, hs, rs, rfl, rfl, rfl, rfl, ⟨fun k o e => by simp at e⟩, by simpa [cntE] using hc, fun _ hr => hr, fun k o e => by simp at e, fun i g e => by simpa [cntE] using e, fun k o e => by simp at e⟩
  | o :: l, base, rec, tm, h, n, hs, rs, tm', h', hr => by
    rw [runOpsD_cons] at hr
    obtain ⟨v, h1, e1, e2⟩ := thenO_some hr
    have mk : ∀ (n' : Nat) (hs' : List Hp) (rs' : List Rec) (TM : Nat → Tm) (HH : Nat → Hp) (VV : Nat → V) (hsF : List Hp) (rsF : List Rec),
        n' = n + (if kindOf o.op = 2 then 1 else 0) → hs' = (if kindOf o.op = 2 then h1 :: hs else hs) →
        (∀ r ∈ rs, r ∈ rs') → (kindOf o.op = 0 → heapy o.op = true → wanted o.gd tm = some true → (⟨o, tm, v⟩ : Rec) ∈ rs') →
        TM 0 = Tm.puts o.dst tm v → HH 0 = h1 → TM l.length = tm' → HH l.length = h' → TraceC l base rec TM HH VV →
        checkRecs (n' + cntE l l.length) hsF rsF = true → (∀ r ∈ rs', r ∈ rsF) →
        (∀ k o, l[k]? = some o → kindOf o.op = 0 → heapy o.op = true → wanted o.gd (TM k) = some true → (⟨o, TM k, VV k⟩ : Rec) ∈ rsF) →
        (∀ i g, hs'[i]? = some g → hsF[i + cntE l l.length]? = some g) →
        (∀ k o, l[k]? = some o → kindOf o.op = 2 → hsF[cntE l l.length - cntE l (k + 1)]? = some (HH (k + 1))) →
        ∃ (TM : Nat → Tm) (HH : Nat → Hp) (VV : Nat → V) (hsF : List Hp) (rsF : List Rec), TM 0 = tm ∧ HH 0 = h ∧ TM (o :: l).length = tm' ∧ HH (o :: l).length = h' ∧ TraceC (o :: l) base rec TM HH VV ∧
          checkRecs (n + cntE (o :: l) (o :: l).length) hsF rsF = true ∧ (∀ r ∈ rs, r ∈ rsF) ∧
          (∀ k o', (o :: l)[k]? = some o' → kindOf o'.op = 0 → heapy o'.op = true → wanted o'.gd (TM k) = some true → (⟨o', TM k, VV k⟩ : Rec) ∈ rsF) ∧
          (∀ i g, hs[i]? = some g → hsF[i + cntE (o :: l) (o :: l).length]? = some g) ∧
          (∀ k o', (o :: l)[k]? = some o' → kindOf o'.op = 2 → hsF[cntE (o :: l) (o :: l).length - cntE (o :: l) (k + 1)]? = some (HH (k + 1))) := by
      intro n' hs' rs' TM HH VV hsF rsF hn hhs hrs hrs0 t0 t1 t2 t3 tr ck r1 r2 s1 s2
      refine ⟨fun | 0 => tm | k + 1 => TM k, fun | 0 => h | k + 1 => HH k, fun | 0 => v | k + 1 => VV k, hsF, rsF, rfl, rfl, t2, t3, ⟨fun k o' e => ?_⟩, ?_, fun r hr => r1 _ (hrs _ hr), fun k o' e k0 k1 k2 => ?_, fun i g e => ?_, fun k o' e k2 => ?_⟩
      · cases k with
        | zero => simp at e; subst e; exact ⟨(show gevD o base rec tm h = some (v, HH 0) by rw [t1]; exact e1), t0⟩
        | succ k => exact tr.step k o' (by simpa using e)
      · simp only [cntE, List.length_cons]; rw [← Nat.add_assoc, ← hn]; exact ck
      · cases k with
        | zero => simp at e; subst e; exact r1 _ (hrs0 k0 k1 k2)
        | succ k => exact r2 k o' (by simpa using e) k0 k1 k2
      · simp only [cntE, List.length_cons]
        by_cases hk : kindOf o.op = 2
        · rw [if_pos hk] at hhs ⊢
          have := s1 (i + 1) g (by rw [hhs]; simpa using e)
          rw [show i + (1 + cntE l l.length) = i + 1 + cntE l l.length by omega]; exact this
        · rw [if_neg hk] at hhs ⊢
          rw [Nat.zero_add]
          exact s1 i g (by rw [hhs]; exact e)
      · cases k with
        | zero =>
          simp at e; subst e
          simp only [cntE, List.length_cons]
          rw [if_pos k2, cntE_zero]
          rw [if_pos k2] at hhs
          have := s1 0 h1 (by rw [hhs]; rfl)
          rw [show 1 + cntE l l.length - (1 + 0) = 0 + cntE l l.length by omega, this]; exact congrArg some t1.symm
        | succ k =>
          have := s2 k o' (by simpa using e) k2
          simp only [cntE, List.length_cons]
          rw [Nat.add_sub_add_left]
          exact this
    rcases kindOf_cases o.op with hk | hk | hk
    · simp only [goD, hk] at e2
      obtain ⟨TM, HH, VV, hsF, rsF, t0, t1, t2, t3, tr, ck, r1, r2, s1, s2⟩ := runOpsD_trace l base rec _ _ _ _ _ _ _ e2
      exact mk n hs _ TM HH VV hsF rsF (by simp [hk]) (by simp [hk]) recsOf_mem.1 (fun _ => recsOf_mem.2) t0 t1 t2 t3 tr ck r1 r2 s1 s2
    · simp only [goD, hk] at e2
      obtain ⟨TM, HH, VV, hsF, rsF, t0, t1, t2, t3, tr, ck, r1, r2, s1, s2⟩ := runOpsD_trace l base rec _ _ _ _ _ _ _ e2
      exact mk n hs _ TM HH VV hsF rsF (by simp [hk]) (by simp [hk]) (fun _ h => h) (fun e => by omega) t0 t1 t2 t3 tr ck r1 r2 s1 s2
    · simp only [goD, hk] at e2
      obtain ⟨TM, HH, VV, hsF, rsF, t0, t1, t2, t3, tr, ck, r1, r2, s1, s2⟩ := runOpsD_trace l base rec _ _ _ _ _ _ _ e2
      exact mk (n + 1) (h1 :: hs) _ TM HH VV hsF rsF (by simp [hk]) (by simp [hk]) (fun _ h => h) (fun e => by omega) t0 t1 t2 t3 tr ck r1 r2 s1 s2

/-- The whole trace of an open region. -/
structure TraceD (l : List AOper) (base : Nat) (rec : RecT) (TM : Nat → Tm) (HH : Nat → Hp) (VV : Nat → V) : Prop extends TraceC l base rec TM HH VV where
  snap : ∀ k o, l[k]? = some o → kindOf o.op = 0 → heapy o.op = true → wanted o.gd (TM k) = some true → ∀ q, (q = 0 ∨ ∃ e o', q = e + 1 ∧ l[e]? = some o' ∧ kindOf o'.op = 2) →
    o.lo ≤ cntE l q → cntE l q ≤ o.hi → qev o.op (TM k) (HH q) = some (VV k)

theorem runOpsD_traceD {l : List AOper} {base : Nat} {rec : RecT} (hr : runOpsD l base rec tm h 0 [h] [] = some (tm', h')) :
    ∃ (TM : Nat → Tm) (HH : Nat → Hp) (VV : Nat → V), TM 0 = tm ∧ HH 0 = h ∧ TM l.length = tm' ∧ HH l.length = h' ∧ TraceD l base rec TM HH VV := by
  obtain ⟨TM, HH, VV, hsF, rsF, t0, t1, t2, t3, tr, ck, r1, r2, s1, s2⟩ := runOpsD_trace l base rec _ _ _ _ _ _ _ hr
  refine ⟨TM, HH, VV, t0, t1, t2, t3, ⟨tr, fun k o e k0 k1 k2 q hq hlo hhi => ?_⟩⟩
  have hrec := checkRecs_spec ck _ (r2 k o e k0 k1 k2)
  rw [Nat.zero_add] at hrec
  have hle := cntE_le l q
  refine same_spec hsF _ hrec (cntE l l.length - cntE l q) (HH q) ?_ (by omega) ?_ ?_
  · rcases hq with rfl | ⟨e', o', rfl, he, hk⟩
    · rw [cntE_zero, Nat.sub_zero, t1]
      have := s1 0 h rfl
      rwa [Nat.zero_add] at this
    · exact s2 e' o' he hk
  · simp only; omega
  · simp only; omega

end Go.Proofs.YtgnpoaoekhplhaaGreatDoor.AE
namespace Go.Proofs.YtgnpoaoekhplhaaGreatDoor.AE
open Go
variable {P : Program} {w w' : World} {σ σ' : Sg} {tm tm' : Tm} {a : Act} {h h' : Hp}

/-! ### What the check of an open region gives -/
theorem cOpsD_get {nt : Nat} {ops : Array Oper} {bf : Array Nat} {es al : List Nat} : ∀ {ord : List Nat} {as : List AOper}, cOpsD P nt ops bf es al ord = some as →
    as.length = ord.length ∧ ∀ (k i : Nat), ord[k]? = some i → ∃ o x lo hi, ops[i]? = some o ∧ as[k]? = some x ∧ cOper P nt ops lo hi o = some x
  | [], as, hc => by simp only [cOpsD] at hc; cases hc; exact ⟨rfl, fun k i e => by simp at e⟩
  | j :: ord, as, hc => by
    simp only [cOpsD] at hc
    split at hc
    · next o ho =>
      split at hc
      · next x r hx hr =>
        cases hc
        obtain ⟨h1, h2⟩ := cOpsD_get hr
        refine ⟨by simp [h1], fun k i e => ?_⟩
        cases k with
        | zero => simp at e; subst e; exact ⟨o, x, _, _, ho, rfl, hx⟩
        | succ k => exact h2 k i (by simpa using e)
      · cases hc
    · cases hc

theorem chkP_get {n cnt ec : Nat} {bf : Array Nat} : ∀ {z : List (Nat × AOper)}, chkP n bf cnt ec z = true →
    (∀ (k : Nat) x, z[k]? = some x → chk1 n bf cnt ec x = true) ∧ (∀ (k l : Nat) x y, k < l → z[k]? = some x → z[l]? = some y → chk2 bf x y = true ∧ chkW bf x y = true ∧ chkW bf y x = true)
  | [], _ => ⟨fun k x e => by simp at e, fun k l x y _ e => by simp at e⟩
  | u :: z, hc => by
    simp only [chkP, Bool.and_eq_true, List.all_eq_true] at hc
    obtain ⟨⟨h1, h2⟩, h3⟩ := hc
    obtain ⟨i1, i2⟩ := chkP_get h3
    refine ⟨fun k x e => ?_, fun k l x y hkl e e' => ?_⟩
    · cases k with
      | zero => simp at e; subst e; exact h1
      | succ k => exact i1 k x (by simpa using e)
    · cases l with
      | zero => omega
      | succ l =>
        cases k with
        | zero =>
          simp at e; subst e
          have := h2 y (List.mem_of_getElem? (by simpa using e'))
          exact ⟨this.1.1, this.1.2, this.2⟩
        | succ k => exact i2 k l x y (by omega) (by simpa using e) (by simpa using e')

theorem chkR_all {ec : Nat} : ∀ {as : List AOper} {n : Nat}, chkR ec n as = true → ec = n + cntE as as.length
  | [], n, hc => (Nat.eq_of_beq_eq_true hc).symm
  | o :: l, n, hc => by
    simp only [chkR] at hc
    cases hb : Nat.beq (kindOf o.op) 2 with
    | true =>
      rw [hb] at hc
      simp only [cond_true, Bool.and_eq_true] at hc
      have h2 := Nat.eq_of_beq_eq_true hb
      have := chkR_all hc.2
      simp only [cntE, List.length_cons, if_pos h2]; omega
    | false =>
      rw [hb] at hc
      have h2 := Nat.ne_of_beq_eq_false hb
      have := chkR_all (by simpa using hc)
      simp only [cntE, List.length_cons, if_neg h2]; omega

theorem chkR_get {ec : Nat} : ∀ {as : List AOper} {n : Nat}, chkR ec n as = true → ∀ (k : Nat) x, as[k]? = some x → kindOf x.op = 2 → x.lo = n + cntE as k
  | [], _, _, k, x, e, _ => by simp at e
  | o :: l, n, hc, k, x, e, hk => by
    simp only [chkR] at hc
    cases hb : Nat.beq (kindOf o.op) 2 with
    | true =>
      rw [hb] at hc
      simp only [cond_true, Bool.and_eq_true] at hc
      have h2 := Nat.eq_of_beq_eq_true hb
      cases k with
      | zero => simp at e; subst e; simpa [cntE] using Nat.eq_of_beq_eq_true hc.1
      | succ k =>
        have := chkR_get hc.2 k x (by simpa using e) hk
        simp only [cntE, if_pos h2]; omega
    | false =>
      rw [hb] at hc
      have h2 := Nat.ne_of_beq_eq_false hb
      cases k with
      | zero => simp at e; subst e; exact absurd hk h2
      | succ k =>
        have := chkR_get (by simpa using hc) k x (by simpa using e) hk
        simp only [cntE, if_neg h2]; omega

/-- The region, checked: by canonical place. -/
structure RC (P : Program) (nt : Nat) (ops : Array Oper) (cnt : Nat) (as : List AOper) (ord : List Nat) : Prop where
  fol : P.follows .mixedOrders = true
  olen : ord.length = ops.size
  alen : as.length = ops.size
  ent : ∀ (k i : Nat), ord[k]? = some i → ∃ o x lo hi, ops[i]? = some o ∧ as[k]? = some x ∧ cOper P nt ops lo hi o = some x
  all : ∀ (i : Nat), i < ops.size → ∃ k : Nat, ord[k]? = some i
  c1 : ∀ (k i : Nat) x, ord[k]? = some i → as[k]? = some x → chk1 ops.size (Region.before ops) cnt (cntE as as.length) (i, x) = true
  c2 : ∀ (k l i j : Nat) x y, k < l → ord[k]? = some i → as[k]? = some x → ord[l]? = some j → as[l]? = some y →
    chk2 (Region.before ops) (i, x) (j, y) = true ∧ chkW (Region.before ops) (i, x) (j, y) = true ∧ chkW (Region.before ops) (j, y) (i, x) = true
  rank : ∀ (k : Nat) x, as[k]? = some x → kindOf x.op = 2 → x.lo = cntE as k

theorem zip_get {α β : Type} {l : List α} {m : List β} {k : Nat} {x : α} {y : β} (h1 : l[k]? = some x) (h2 : m[k]? = some y) : (l.zip m)[k]? = some (x, y) := by
  rw [List.getElem?_zip_eq_some]; exact ⟨h1, h2⟩

theorem cReg_rc {nt : Nat} {ops : Array Oper} {cnt : Nat} {as : List AOper} (hc : cReg P nt ops true = some (.regD cnt as)) : ∃ ord, RC P nt ops cnt as ord := by
  unfold cReg at hc
  simp only [if_true] at hc
  split at hc
  · next as' has =>
    split at hc
    · next hchk =>
      cases hc
      simp only [Bool.and_eq_true, List.all_eq_true] at hchk
      obtain ⟨⟨⟨⟨h1, h2⟩, h3⟩, h4⟩, h5⟩ := hchk
      obtain ⟨g1, g2⟩ := cOpsD_get has
      obtain ⟨p1, p2⟩ := chkP_get h5
      have ho := Nat.eq_of_beq_eq_true h2
      refine ⟨_, ⟨h1, ho, g1.trans ho, g2, fun i hi => ?_, fun k i x e1 e2 => by have hh := chkR_all h4; rw [Nat.zero_add] at hh; rw [← hh]; exact p1 k _ (zip_get e1 e2), fun k l i j x y hkl e1 e2 e3 e4 => p2 k l _ _ hkl (zip_get e1 e2) (zip_get e3 e4), fun k x e hk => ?_⟩⟩
      · have := h3 i (List.mem_range.2 hi)
        rw [List.contains_iff_mem] at this
        exact List.mem_iff_getElem?.1 this
      · have := chkR_get h4 k x e hk
        omega
    · cases hc
  · cases hc

/-! ### The order of the edges -/
/-- What stands ahead of an operation. -/
def wordOf (g : Nat → Nat) (o : Oper) : Nat := o.after.foldl (fun s e => if Region.binds .any e then s ||| 2 ^ e.on ||| g e.on else s) 0

theorem word_bit (g : Nat → Nat) (j : Nat) : ∀ (l : List Edge) (s : Nat), (l.foldl (fun s e => if Region.binds .any e then s ||| 2 ^ e.on ||| g e.on else s) s).testBit j = true ↔
    (s.testBit j = true ∨ ∃ e ∈ l, Region.binds .any e = true ∧ (j = e.on ∨ (g e.on).testBit j = true))
  | [], s => by simp
  | e :: l, s => by
    rw [List.foldl_cons, word_bit g j l]
    by_cases hb : Region.binds .any e = true
    · rw [if_pos hb]
      simp only [Nat.testBit_or, Nat.testBit_two_pow, Bool.or_eq_true, decide_eq_true_eq, List.mem_cons]
      constructor
      · rintro (((h | h) | h) | ⟨e', h1, h2, h3⟩)
        · exact .inl h
        · exact .inr ⟨e, .inl rfl, hb, .inl h.symm⟩
        · exact .inr ⟨e, .inl rfl, hb, .inr h⟩
        · exact .inr ⟨e', .inr h1, h2, h3⟩
      · intro hh
        rcases hh with h | ⟨e', h1, h2, h3⟩
        · exact .inl (.inl (.inl h))
        · rcases h1 with rfl | h1
          · rcases h3 with h3 | h3
            · exact .inl (.inl (.inr h3.symm))
            · exact .inl (.inr h3)
          · exact .inr ⟨e', h1, h2, h3⟩
    · rw [if_neg hb]
      simp only [List.mem_cons]
      constructor
      · rintro (h | ⟨e', h1, h2, h3⟩)
        · exact .inl h
        · exact .inr ⟨e', .inr h1, h2, h3⟩
      · intro hh
        rcases hh with h | ⟨e', h1, h2, h3⟩
        · exact .inl h
        · rcases h1 with rfl | h1
          · exact absurd h2 hb
          · exact .inr ⟨e', h1, h2, h3⟩

theorem wordOf_bit (g : Nat → Nat) (j : Nat) (o : Oper) : (wordOf g o).testBit j = true ↔ ∃ e ∈ o.after, Region.binds .any e = true ∧ (j = e.on ∨ (g e.on).testBit j = true) := by
  unfold wordOf
  rw [← Array.foldl_toList, word_bit]
  simp

def befGo (l : List Oper) (acc : Array Nat) : Array Nat := l.foldl (fun acc o => acc.push (wordOf (fun k => acc.getD k 0) o)) acc
theorem before_eq (ops : Array Oper) : Region.before ops = befGo ops.toList #[] := by
  unfold Region.before befGo
  rw [← Array.foldl_toList]
  rfl

theorem befGo_low : ∀ (l : List Oper) (acc : Array Nat) (i : Nat), i < acc.size → (befGo l acc)[i]? = acc[i]?
  | [], _, _, _ => rfl
  | o :: l, acc, i, hi => by
    have := befGo_low l (acc.push (wordOf (fun k => acc.getD k 0) o)) i (by simp; omega)
    rw [show befGo (o :: l) acc = befGo l (acc.push (wordOf (fun k => acc.getD k 0) o)) from rfl, this, Array.getElem?_push_lt hi, Array.getElem?_eq_getElem hi]

theorem befGo_get : ∀ (l : List Oper) (acc : Array Nat) (m : Nat) (o : Oper), l[m]? = some o → (befGo l acc)[acc.size + m]? = some (wordOf (fun k => if k < acc.size + m then (befGo l acc).getD k 0 else 0) o)
  | [], _, _, _, e => by simp at e
  | u :: l, acc, 0, o, e => by
    simp at e; subst e
    have h1 := befGo_low l (acc.push (wordOf (fun k => acc.getD k 0) u)) acc.size (by simp)
    rw [show befGo (u :: l) acc = befGo l (acc.push (wordOf (fun k => acc.getD k 0) u)) from rfl, Nat.add_zero, h1]
    simp only [Array.getElem?_push_size]
    congr 1
    congr 1
    funext k
    by_cases hk : k < acc.size
    · rw [if_pos hk]
      have := befGo_low l (acc.push (wordOf (fun k => acc.getD k 0) u)) k (by simp; omega)
      rw [Array.getD_eq_getD_getElem?, Array.getD_eq_getD_getElem?, this, Array.getElem?_push_lt hk, Array.getElem?_eq_getElem hk]
    · rw [if_neg hk, Array.getD_eq_getD_getElem?, Array.getElem?_eq_none (by omega)]; rfl
  | u :: l, acc, m + 1, o, e => by
    have := befGo_get l (acc.push (wordOf (fun k => acc.getD k 0) u)) m o (by simpa using e)
    rw [show befGo (u :: l) acc = befGo l (acc.push (wordOf (fun k => acc.getD k 0) u)) from rfl]
    rw [Array.size_push, show acc.size + 1 + m = acc.size + (m + 1) by omega] at this
    exact this

theorem bef_iff {ops : Array Oper} {i j : Nat} {o : Oper} (ho : ops[i]? = some o) :
    bef (Region.before ops) j i = true ↔ ∃ e ∈ o.after, Region.binds .any e = true ∧ (j = e.on ∨ (e.on < i ∧ bef (Region.before ops) j e.on = true)) := by
  have hg := befGo_get ops.toList #[] i o (by simpa using ho)
  rw [← before_eq] at hg
  simp only [Array.size_empty, Nat.zero_add] at hg
  unfold bef
  rw [Array.getD_eq_getD_getElem?, hg, Option.getD_some, wordOf_bit]
  constructor
  · rintro ⟨e, h1, h2, h3⟩
    refine ⟨e, h1, h2, ?_⟩
    rcases h3 with h3 | h3
    · exact .inl h3
    · by_cases hk : e.on < i
      · rw [if_pos hk] at h3; exact .inr ⟨hk, h3⟩
      · rw [if_neg hk] at h3; simp at h3
  · rintro ⟨e, h1, h2, h3⟩
    refine ⟨e, h1, h2, ?_⟩
    rcases h3 with h3 | ⟨hk, h3⟩
    · exact .inl h3
    · exact .inr (by rw [if_pos hk]; exact h3)

end Go.Proofs.YtgnpoaoekhplhaaGreatDoor.AE
namespace Go.Proofs.YtgnpoaoekhplhaaGreatDoor.AE
open Go
variable {P : Program} {w w' w0 : World} {σ σ' σ0 : Sg} {tm tm' : Tm} {a : Act} {h h' h0 : Hp}

/-! ### Blocks that are named, and not yet joined to the heap -/
theorem live_up (hw : WR P σ h w) {id j : Nat} {pl : Pl} (hid : σ id = none) {o : O} (hj : h.get j = some o) : (σ.up id pl) j = σ j := by
  obtain ⟨p, a1, _⟩ := hw.blk _ _ hj
  exact Sg.up_ne _ _ (fun e => by rw [e, hid] at a1; cases a1)

theorem WR.name (hw : WR P σ h w) {id : Nat} {pl : Pl} (hid : σ id = none) (hlt : id < h.nx) (hk : ∀ b, b < w.heap.size → w'.heap[b]? = w.heap[b]?) : WR P (σ.up id pl) h w' where
  blk := fun j o hj => by
    obtain ⟨p, a1, a2⟩ := hw.blk _ _ hj
    exact ⟨p, (live_up hw hid hj).trans a1, a2.mono (Sg.le_up pl hid) (hk _ a2.lt)⟩
  inj := fun j j' o o' p p' h1 h2 hr e1 e2 eb => by
    rw [live_up hw hid h1] at e1
    rw [live_up hw hid h2] at e2
    exact hw.inj _ _ _ _ _ _ h1 h2 hr e1 e2 eb
  dom := fun j hj => by rw [Sg.up_ne _ _ (by omega)]; exact hw.dom _ hj
  glob := fun g hg => Sg.le_up pl hid _ _ (hw.glob g hg)

theorem Ext.name (he : Ext σ0 h0 w0 σ h w) (hw : WR P σ h w) {id : Nat} {pl : Pl} (hid : σ id = none) (hb : h0.nx ≤ id) (hk : ∀ b, b < w.heap.size → w'.heap[b]? = w.heap[b]?) (hs : w.heap.size ≤ w'.heap.size) (hc : Calm w w') :
    Ext σ0 h0 w0 (σ.up id pl) h w' where
  le := Sg.le_trans he.le (Sg.le_up pl hid)
  size := Nat.le_trans he.size hs
  keep := fun b hb hn => (hk b (Nat.lt_of_lt_of_le hb he.size)).trans (he.keep b hb hn)
  wr := fun b hb ⟨j, o, p, h1, h2, h3, h4⟩ => he.wr b hb ⟨j, o, p, h1, h2, by rw [live_up hw hid h1] at h3; exact h3, h4⟩
  nm := fun b hb ⟨j, o, p, h1, h3, h4⟩ => he.nm b hb ⟨j, o, p, h1, by rw [live_up hw hid h1] at h3; exact h3, h4⟩
  nx := he.nx
  new := fun j hj => by rw [Sg.up_ne _ _ (by omega)]; exact he.new j hj
  tape := hc.tape.trans he.tape
  os := hc.os.trans he.os
  output := hc.output.trans he.output

theorem Nm_join {id : Nat} {pl : Pl} {o : O} {b : Nat} (hp : σ id = some pl) (hb : Nm σ (h.set id o) b) : b = pl.blk ∨ Nm σ h b := by
  obtain ⟨j, o', p, h1, h2, h3⟩ := hb
  rw [Hp.get_set] at h1
  split at h1
  · next e => subst e; rw [hp] at h2; cases h2; exact .inl h3.symm
  · exact .inr ⟨j, o', p, h1, h2, h3⟩

theorem WR.join (hw : WR P σ h w) {id : Nat} {pl : Pl} {o : O} (hp : σ id = some pl) (hb : BlkOK P σ w pl o) (hn : ¬ Nm σ h pl.blk) : WR P σ (h.set id o) w where
  blk := fun j o' hj => by
    rw [Hp.get_set] at hj
    split at hj
    · next e => cases hj; subst e; exact ⟨pl, hp, hb⟩
    · exact hw.blk _ _ hj
  inj := fun j j' o1 o2 p p' h1 h2 hr e1 e2 eb => by
    rw [Hp.get_set] at h1 h2
    split at h1
    · next e =>
      subst e; rw [hp] at e1; cases e1
      split at h2
      · next e' => exact e'.symm
      · exact absurd ⟨j', _, p', h2, e2, eb.symm⟩ hn
    · split at h2
      · next e' =>
        subst e'; rw [hp] at e2; cases e2
        exact absurd ⟨j, _, p, h1, e1, eb⟩ hn
      · exact hw.inj _ _ _ _ _ _ h1 h2 hr e1 e2 eb
  dom := hw.dom
  glob := hw.glob

theorem Ext.join (he : Ext σ0 h0 w0 σ h w) {id : Nat} {pl : Pl} {o : O} (hp : σ id = some pl) (hsz : w0.heap.size ≤ pl.blk) : Ext σ0 h0 w0 σ (h.set id o) w :=
  { he with
    wr := fun b hb ⟨j, o', p, h1, h2, h3, h4⟩ => by
      rw [Hp.get_set] at h1
      split at h1
      · next e => subst e; rw [hp] at h3; cases h3; omega
      · exact he.wr b hb ⟨j, o', p, h1, h2, h3, h4⟩
    nm := fun b hb hh => by
      rcases Nm_join hp hh with e | e
      · omega
      · exact he.nm b hb e }

/-- A block that has been laid ahead of its turn. -/
def Early (P : Program) (σ : Sg) (h : Hp) (w : World) (sz id : Nat) (o : O) (pl : Pl) : Prop := σ id = some pl ∧ BlkOK P σ w pl o ∧ sz ≤ pl.blk ∧ ¬ Nm σ h pl.blk

theorem Early.ext {sz id : Nat} {o : O} {pl : Pl} (he : Early P σ h w sz id o pl) (e : Ext σ h w σ' h' w') : Early P σ' h' w' sz id o pl := by
  obtain ⟨h1, h2, h3, h4⟩ := he
  have hlt := h2.lt
  refine ⟨e.le _ _ h1, h2.mono e.le (e.keep _ hlt (fun ⟨j, o', p, g1, _, g3, g4⟩ => h4 ⟨j, o', p, g1, g3, g4⟩)), h3, fun hn => h4 (e.nm _ hlt hn)⟩

theorem gev_eq (o : AOper) (rec : RecT) (tm : Tm) (h : Hp) : gev o rec tm h = ifWanted (wanted o.gd tm) (oev o.op rec tm h) h := by
  cases hg : o.gd with
  | none => simp only [gev, hg, wanted, ifWanted]
  | some g => simp only [gev, hg]

theorem gevD_one {o : AOper} (hk : kindOf o.op = 1) (base : Nat) (rec : RecT) (tm : Tm) (h : Hp) : gevD o base rec tm h = ifWanted (wanted o.gd tm) (retAt (base + o.lo) (aev o.op tm) h) h := by
  simp only [gevD, hk]
theorem gevD_zero {o : AOper} (hk : kindOf o.op = 0) (base : Nat) (rec : RecT) (tm : Tm) (h : Hp) : gevD o base rec tm h = gev o rec tm h := by
  simp only [gevD, hk]
theorem gevD_two {o : AOper} (hk : kindOf o.op = 2) (base : Nat) (rec : RecT) (tm : Tm) (h : Hp) : gevD o base rec tm h = gev o rec tm h := by
  simp only [gevD, hk]

theorem ifWanted_some {x : Option Bool} {r : Option (V × Hp)} {v : V} (e : ifWanted x r h = some (v, h')) : (x = some true ∧ r = some (v, h')) ∨ (x = some false ∧ v = .tu [] ∧ h' = h) := by
  unfold ifWanted at e
  split at e
  · exact .inl ⟨rfl, e⟩
  · cases e; exact .inr ⟨rfl, rfl, rfl⟩
  · cases e

theorem retAt_some {id : Nat} {x : Option (O × (Nat → V))} {v : V} (e : retAt id x h = some (v, h')) : ∃ o mk, x = some (o, mk) ∧ v = mk id ∧ h' = h.set id o := by
  unfold retAt at e
  split at e
  · cases e; exact ⟨_, _, rfl, rfl, rfl⟩
  · cases e

end Go.Proofs.YtgnpoaoekhplhaaGreatDoor.AE
namespace Go.Proofs.YtgnpoaoekhplhaaGreatDoor.AE
open Go
variable {P : Program} {w w' w0 : World} {σ σ' σ0 : Sg} {tm tm' : Tm} {a : Act} {h h' h0 : Hp}

theorem chk2_spec {bf : Array Nat} {x y : Nat × AOper} (hc : chk2 bf x y = true) :
    bef bf y.1 x.1 = false ∧ (kindOf y.2.op = 2 → kindOf x.2.op ≠ 0 → bef bf x.1 y.1 = true) ∧ (∀ d, x.2.dst = some d → y.2.dst = some d → False) ∧
    (∀ d, x.2.dst = some d → y.2.reads d = true → bef bf x.1 y.1 = true) ∧ (∀ d, y.2.dst = some d → x.2.reads d = true → bef bf x.1 y.1 = true) ∧
    (kindOf x.2.op = 1 → kindOf y.2.op = 1 → x.2.lo ≠ y.2.lo) := by
  unfold chk2 at hc
  simp only [Bool.and_eq_true, Bool.or_eq_true, Bool.not_eq_true'] at hc
  obtain ⟨⟨⟨⟨⟨⟨h1, h2⟩, h3⟩, h4⟩, h5⟩, h6⟩, h7⟩ := hc
  refine ⟨h1, fun e1 e2 => ?_, fun d e1 e2 => ?_, fun d e1 e2 => ?_, fun d e1 e2 => ?_, fun e1 e2 e3 => ?_⟩
  · rcases h3 with (h3 | h3) | h3
    · exact absurd e1 (Nat.ne_of_beq_eq_false h3)
    · exact absurd (Nat.eq_of_beq_eq_true h3) e2
    · exact h3
  · rw [e1, e2] at h4
    simp at h4
  · rw [e1] at h5
    simp only [Bool.or_eq_true, Bool.not_eq_true'] at h5
    rcases h5 with h5 | h5
    · rw [e2] at h5; cases h5
    · exact h5
  · rw [e1] at h6
    simp only [Bool.or_eq_true, Bool.not_eq_true'] at h6
    rcases h6 with h6 | h6
    · rw [e2] at h6; cases h6
    · exact h6
  · rcases h7 with (h7 | h7) | h7
    · exact Nat.ne_of_beq_eq_false h7 e1
    · exact Nat.ne_of_beq_eq_false h7 e2
    · exact Nat.ne_of_beq_eq_false h7 e3

theorem chkW_spec {bf : Array Nat} {q e : Nat × AOper} (hc : chkW bf q e = true) (hq : heapy q.2.op = true) (he : kindOf e.2.op = 2) :
    (e.2.lo < q.2.lo → bef bf e.1 q.1 = true) ∧ (q.2.hi ≤ e.2.lo → bef bf q.1 e.1 = true) := by
  unfold chkW at hc
  rw [hq, he] at hc
  simp only [Bool.and_eq_true, Bool.or_eq_true, Bool.not_eq_true', Bool.not_true, Bool.false_eq_true, false_or, Nat.beq_refl] at hc
  refine ⟨fun h1 => ?_, fun h1 => ?_⟩
  · rcases hc.1 with h2 | h2
    · have : Nat.blt e.2.lo q.2.lo = true := Nat.ble_eq_true_of_le h1
      rw [this] at h2; cases h2
    · exact h2
  · rcases hc.2 with h2 | h2
    · rw [Nat.ble_eq_true_of_le h1] at h2; cases h2
    · exact h2

theorem chk1_spec {n cnt ec : Nat} {bf : Array Nat} {x : Nat × AOper} (hc : chk1 n bf cnt ec x = true) : x.1 < n ∧ bf.getD x.1 0 < 2 ^ n ∧ (kindOf x.2.op = 1 → x.2.lo < cnt) ∧ (kindOf x.2.op = 0 → x.2.lo ≤ ec) ∧ bef bf x.1 x.1 = false := by
  unfold chk1 at hc
  simp only [Bool.and_eq_true, Bool.or_eq_true, Bool.not_eq_true'] at hc
  obtain ⟨⟨⟨⟨h1, h2⟩, h3⟩, h4⟩, h5⟩ := hc
  refine ⟨Nat.le_of_ble_eq_true h1, Nat.le_of_ble_eq_true h2, fun e => ?_, fun e => ?_, h5⟩
  · rcases h3 with h3 | h3
    · exact absurd e (Nat.ne_of_beq_eq_false h3)
    · exact Nat.le_of_ble_eq_true h3
  · rcases h4 with h4 | h4
    · exact absurd e (Nat.ne_of_beq_eq_false h4)
    · exact Nat.le_of_ble_eq_true h4

/-- The place k must come ahead of the place l. -/
def Bf (ops : Array Oper) (ord : List Nat) (k l : Nat) : Prop := ∃ (i j : Nat), ord[k]? = some i ∧ ord[l]? = some j ∧ bef (Region.before ops) i j = true

section
variable {nt cnt : Nat} {ops : Array Oper} {as : List AOper} {ord : List Nat}

theorem RC.at (rc : RC P nt ops cnt as ord) {k : Nat} {x : AOper} (hx : as[k]? = some x) : ∃ i : Nat, ord[k]? = some i := by
  have : k < as.length := (List.getElem?_eq_some_iff.1 hx).1
  exact ⟨_, List.getElem?_eq_getElem (by rw [rc.olen, ← rc.alen]; exact this)⟩

theorem RC.f2 (rc : RC P nt ops cnt as ord) {k l : Nat} {x y : AOper} (hkl : k < l) (hx : as[k]? = some x) (hy : as[l]? = some y) : ¬ Bf ops ord l k := by
  rintro ⟨j, i, h1, h2, h3⟩
  have := (chk2_spec (rc.c2 k l i j x y hkl h2 hx h1 hy).1).1
  simp only at this
  rw [this] at h3; cases h3

theorem RC.f1 (rc : RC P nt ops cnt as ord) {k l : Nat} {x y : AOper} (hkl : k < l) (hx : as[k]? = some x) (hy : as[l]? = some y) (h2 : kindOf y.op = 2) (h0 : kindOf x.op ≠ 0) : Bf ops ord k l := by
  obtain ⟨i, hi⟩ := rc.at hx
  obtain ⟨j, hj⟩ := rc.at hy
  exact ⟨i, j, hi, hj, (chk2_spec (rc.c2 k l i j x y hkl hi hx hj hy).1).2.1 h2 h0⟩

theorem RC.f3 (rc : RC P nt ops cnt as ord) {k l : Nat} {x y : AOper} {d : Nat} (hkl : k ≠ l) (hx : as[k]? = some x) (hy : as[l]? = some y) (h1 : x.dst = some d) (h2 : y.dst = some d) : False := by
  obtain ⟨i, hi⟩ := rc.at hx
  obtain ⟨j, hj⟩ := rc.at hy
  rcases Nat.lt_or_gt_of_ne hkl with h | h
  · exact (chk2_spec (rc.c2 k l i j x y h hi hx hj hy).1).2.2.1 d h1 h2
  · exact (chk2_spec (rc.c2 l k j i y x h hj hy hi hx).1).2.2.1 d h2 h1

theorem RC.f4 (rc : RC P nt ops cnt as ord) {k l : Nat} {x y : AOper} {d : Nat} (hkl : k < l) (hx : as[k]? = some x) (hy : as[l]? = some y) (h1 : x.dst = some d) (h2 : y.reads d = true) : Bf ops ord k l := by
  obtain ⟨i, hi⟩ := rc.at hx
  obtain ⟨j, hj⟩ := rc.at hy
  exact ⟨i, j, hi, hj, (chk2_spec (rc.c2 k l i j x y hkl hi hx hj hy).1).2.2.2.1 d h1 h2⟩

theorem RC.f5 (rc : RC P nt ops cnt as ord) {k l : Nat} {x y : AOper} {d : Nat} (hkl : k < l) (hx : as[k]? = some x) (hy : as[l]? = some y) (h1 : y.dst = some d) (h2 : x.reads d = true) : Bf ops ord k l := by
  obtain ⟨i, hi⟩ := rc.at hx
  obtain ⟨j, hj⟩ := rc.at hy
  exact ⟨i, j, hi, hj, (chk2_spec (rc.c2 k l i j x y hkl hi hx hj hy).1).2.2.2.2.1 d h1 h2⟩

theorem RC.f6 (rc : RC P nt ops cnt as ord) {k l : Nat} {x y : AOper} (hkl : k ≠ l) (hx : as[k]? = some x) (hy : as[l]? = some y) (h1 : kindOf x.op = 1) (h2 : kindOf y.op = 1) : x.lo ≠ y.lo := by
  obtain ⟨i, hi⟩ := rc.at hx
  obtain ⟨j, hj⟩ := rc.at hy
  rcases Nat.lt_or_gt_of_ne hkl with h | h
  · exact (chk2_spec (rc.c2 k l i j x y h hi hx hj hy).1).2.2.2.2.2 h1 h2
  · exact ((chk2_spec (rc.c2 l k j i y x h hj hy hi hx).1).2.2.2.2.2 h2 h1).symm

theorem RC.lo_lt (rc : RC P nt ops cnt as ord) {k : Nat} {x : AOper} (hx : as[k]? = some x) (h1 : kindOf x.op = 1) : x.lo < cnt := by
  obtain ⟨i, hi⟩ := rc.at hx
  exact (chk1_spec (rc.c1 k i x hi hx)).2.2.1 h1

theorem RC.lo_le (rc : RC P nt ops cnt as ord) {k : Nat} {x : AOper} (hx : as[k]? = some x) (h1 : kindOf x.op = 0) : x.lo ≤ cntE as as.length := by
  obtain ⟨i, hi⟩ := rc.at hx
  exact (chk1_spec (rc.c1 k i x hi hx)).2.2.2.1 h1

theorem chk2_ne {bf : Array Nat} {x y : Nat × AOper} (hc : chk2 bf x y = true) : x.1 ≠ y.1 := by
  unfold chk2 at hc
  simp only [Bool.and_eq_true, Bool.not_eq_true'] at hc
  exact Nat.ne_of_beq_eq_false hc.1.1.1.1.1.2

theorem RC.inj (rc : RC P nt ops cnt as ord) {k l i : Nat} (h1 : ord[k]? = some i) (h2 : ord[l]? = some i) : k = l := by
  obtain ⟨_, x, _, _, _, hx, _⟩ := rc.ent k i h1
  obtain ⟨_, y, _, _, _, hy, _⟩ := rc.ent l i h2
  rcases Nat.lt_trichotomy k l with h | h | h
  · exact ((chk2_ne (rc.c2 k l i i x y h h1 hx h2 hy).1) rfl).elim
  · exact h
  · exact ((chk2_ne (rc.c2 l k i i y x h h2 hy h1 hx).1) rfl).elim

theorem RC.f7 (rc : RC P nt ops cnt as ord) {k l : Nat} {x y : AOper} (hx : as[k]? = some x) (hy : as[l]? = some y) (h0 : kindOf x.op = 0) (hh : heapy x.op = true) (h2 : kindOf y.op = 2) :
    (y.lo < x.lo → Bf ops ord l k) ∧ (x.hi ≤ y.lo → Bf ops ord k l) := by
  obtain ⟨i, hi⟩ := rc.at hx
  obtain ⟨j, hj⟩ := rc.at hy
  have hkl : k ≠ l := fun e => by subst e; rw [hx] at hy; cases hy; omega
  have key : chkW (Region.before ops) (i, x) (j, y) = true := by
    rcases Nat.lt_or_gt_of_ne hkl with h | h
    · exact (rc.c2 k l i j x y h hi hx hj hy).2.1
    · exact (rc.c2 l k j i y x h hj hy hi hx).2.2
  obtain ⟨g1, g2⟩ := chkW_spec key hh h2
  exact ⟨fun e => ⟨j, i, hj, hi, g1 e⟩, fun e => ⟨i, j, hi, hj, g2 e⟩⟩

/-! ### The temporaries -/
/-- The temporaries, the places of D carried out. -/
def TD (as : List AOper) (VV : Nat → V) (tm0 : Tm) (D : Nat → Prop) (tm : Tm) : Prop :=
  ∀ t, (∀ (k : Nat) x, as[k]? = some x → x.dst = some t → D k → tm.get t = some (VV k)) ∧ ((∀ (k : Nat) x, as[k]? = some x → x.dst = some t → ¬ D k) → tm.get t = tm0.get t)

theorem puts_get {d : Option Nat} {v : V} {t : Nat} : (Tm.puts d tm v).get t = if d = some t then some v else tm.get t := by
  cases d with
  | none => simp [Tm.puts]
  | some d =>
    simp only [Tm.puts, get_set, Option.some.injEq]
    by_cases e : t = d
    · rw [if_pos e, if_pos e.symm]
    · rw [if_neg e, if_neg (fun e' => e e'.symm)]

theorem TD.put (rc : RC P nt ops cnt as ord) {VV : Nat → V} {tm0 : Tm} {D : Nat → Prop} (hd : TD as VV tm0 D tm) {k : Nat} {x : AOper} (hx : as[k]? = some x) :
    TD as VV tm0 (fun l => D l ∨ l = k) (Tm.puts x.dst tm (VV k)) := by
  intro t
  refine ⟨fun l y hy hdst hD => ?_, fun hno => ?_⟩
  · rw [puts_get]
    by_cases e : x.dst = some t
    · rw [if_pos e]
      by_cases hlk : l = k
      · rw [hlk]
      · exact (rc.f3 hlk hy hx hdst e).elim
    · rw [if_neg e]
      rcases hD with hD | rfl
      · exact (hd t).1 l y hy hdst hD
      · rw [hx] at hy; cases hy; exact absurd hdst e
  · rw [puts_get, if_neg (fun e => hno k x hx e (.inr rfl))]
    exact (hd t).2 (fun l y hy hdst hD => hno l y hy hdst (.inl hD))

theorem TD.canon (rc : RC P nt ops cnt as ord) {base : Nat} {rec : RecT} {TM : Nat → Tm} {HH : Nat → Hp} {VV : Nat → V} (tr : TraceC as base rec TM HH VV) : ∀ k, k ≤ as.length → TD as VV (TM 0) (fun l => l < k) (TM k)
  | 0, _ => fun t => ⟨fun l y hy hdst hD => by omega, fun _ => rfl⟩
  | k + 1, hk => by
    have hx : as[k]? = some as[k] := List.getElem?_eq_getElem (by omega)
    have := (TD.canon rc tr k (by omega)).put rc hx
    rw [(tr.step k _ hx).2]
    intro t
    obtain ⟨h1, h2⟩ := this t
    exact ⟨fun l y hy hdst hD => h1 l y hy hdst (by omega), fun hno => h2 (fun l y hy hdst hD => hno l y hy hdst (by omega))⟩

theorem TD.get_eq {VV : Nat → V} {tm0 : Tm} {D D' : Nat → Prop} (h1 : TD as VV tm0 D tm) (h2 : TD as VV tm0 D' tm') {t : Nat} (he : ∀ (k : Nat) x, as[k]? = some x → x.dst = some t → (D k ↔ D' k)) : tm.get t = tm'.get t := by
  by_cases hex : ∃ (k : Nat) (x : AOper), as[k]? = some x ∧ x.dst = some t ∧ D k
  · obtain ⟨k, x, hx, hd, hD⟩ := hex
    rw [(h1 t).1 k x hx hd hD, (h2 t).1 k x hx hd ((he k x hx hd).1 hD)]
  · rw [(h1 t).2 (fun k x hx hd hD => hex ⟨k, x, hx, hd, hD⟩), (h2 t).2 (fun k x hx hd hD => hex ⟨k, x, hx, hd, (he k x hx hd).2 hD⟩)]

/-- What an operation reads is the same in its turn and now. -/
theorem TD.agree (rc : RC P nt ops cnt as ord) {VV : Nat → V} {tm0 : Tm} {D : Nat → Prop} {k : Nat} {x : AOper} (hx : as[k]? = some x) (hk : ¬ D k)
    (hcl : ∀ l m, Bf ops ord l m → D m → D l) (hpre : ∀ l, Bf ops ord l k → D l) (h1 : TD as VV tm0 (fun l => l < k) tm) (h2 : TD as VV tm0 D tm') : AgreeO x tm tm' := by
  intro t ht
  refine h1.get_eq h2 (fun l y hy hdst => ?_)
  rcases Nat.lt_trichotomy l k with hlt | rfl | hgt
  · exact ⟨fun _ => hpre l (rc.f4 hlt hy hx hdst ht), fun _ => hlt⟩
  · exact ⟨fun h => by omega, fun h => absurd h hk⟩
  · exact ⟨fun h => by omega, fun h => absurd (hcl _ _ (rc.f5 hgt hx hy hdst ht) h) hk⟩
end

end Go.Proofs.YtgnpoaoekhplhaaGreatDoor.AE
namespace Go.Proofs.YtgnpoaoekhplhaaGreatDoor.AE
open Go
variable {P : Program} {w w' w0 : World} {σ σ' σ0 : Sg} {tm tm' tmD : Tm} {a a0 : Act} {h h' h0 : Hp}

theorem cntE_next : ∀ (as : List AOper) (f : Nat), cntE as f < cntE as as.length → ∃ (e : Nat) (x : AOper), f ≤ e ∧ as[e]? = some x ∧ kindOf x.op = 2 ∧ cntE as e = cntE as f
  | [], f, h => by simp [cntE] at h
  | o :: l, 0, h => by
    by_cases hk : kindOf o.op = 2
    · exact ⟨0, o, Nat.le_refl _, rfl, hk, rfl⟩
    · obtain ⟨e, x, h1, h2, h3, h4⟩ := cntE_next l 0 (by simpa [cntE, hk, cntE_zero] using h)
      exact ⟨e + 1, x, Nat.zero_le _, by simpa using h2, h3, by simp only [cntE, if_neg hk]; rw [h4, cntE_zero]⟩
  | o :: l, f + 1, h => by
    obtain ⟨e, x, h1, h2, h3, h4⟩ := cntE_next l f (by simp only [cntE, List.length_cons] at h; omega)
    exact ⟨e + 1, x, by omega, by simpa using h2, h3, by simp only [cntE]; rw [h4]⟩

theorem cntE_prev : ∀ (as : List AOper) (f m : Nat), m < cntE as f → ∃ (e : Nat) (x : AOper), e < f ∧ as[e]? = some x ∧ kindOf x.op = 2 ∧ cntE as e = m
  | [], f, m, h => by simp [cntE] at h
  | o :: l, 0, m, h => by simp [cntE] at h
  | o :: l, f + 1, m, h => by
    by_cases hk : kindOf o.op = 2
    · cases m with
      | zero => exact ⟨0, o, by omega, rfl, hk, rfl⟩
      | succ m =>
        obtain ⟨e, x, h1, h2, h3, h4⟩ := cntE_prev l f m (by simp only [cntE, if_pos hk] at h; omega)
        exact ⟨e + 1, x, by omega, by simpa using h2, h3, by simp only [cntE, if_pos hk]; omega⟩
    · obtain ⟨e, x, h1, h2, h3, h4⟩ := cntE_prev l f m (by simp only [cntE, if_neg hk] at h; omega)
      exact ⟨e + 1, x, by omega, by simpa using h2, h3, by simp only [cntE, if_neg hk]; omega⟩

/-- What is fixed for the run of an open region. -/
structure Env (P : Program) (nt : Nat) (ops : Array Oper) (cnt : Nat) (as : List AOper) (ord : List Nat) (rec : RecT) (h0 : Hp) (TM : Nat → Tm) (HH : Nat → Hp) (VV : Nat → V) : Prop where
  rc : RC P nt ops cnt as ord
  tr : TraceD as h0.nx rec TM HH VV
  ro : RecOK P rec

section
variable {nt cnt : Nat} {ops : Array Oper} {as : List AOper} {ord : List Nat} {rec : RecT} {TM : Nat → Tm} {HH : Nat → Hp} {VV : Nat → V}

/-- The state of the run: D has been carried out; f: one past the last effect; q: the heap is that of this place. -/
structure Inv (P : Program) (nt : Nat) (ops : Array Oper) (cnt : Nat) (as : List AOper) (ord : List Nat) (h0 : Hp) (TM : Nat → Tm) (HH : Nat → Hp) (VV : Nat → V) (σ0 : Sg) (w0 : World) (a0 : Act)
    (D : Nat → Prop) (f q : Nat) (σ : Sg) (w : World) (a : Act) (tmD : Tm) : Prop where
  fq : f ≤ q
  flow : f = 0 ∨ ∃ (e : Nat) (x : AOper), f = e + 1 ∧ as[e]? = some x ∧ kindOf x.op = 2
  lowE : ∀ (k : Nat) x, as[k]? = some x → kindOf x.op = 2 → (D k ↔ k < f)
  cl : ∀ l m, Bf ops ord l m → D m → D l
  wr : WR P σ (HH q) w
  ext : Ext σ0 h0 w0 σ (HH q) w
  nx : h0.nx + cnt ≤ (HH q).nx
  early : ∀ (k : Nat) x, as[k]? = some x → q ≤ k → D k → kindOf x.op = 1 → wanted x.gd (TM k) = some true → ∃ o mk pl, aev x.op (TM k) = some (o, mk) ∧ Early P σ (HH q) w w0.heap.size (h0.nx + x.lo) o pl
  dist : ∀ (k k' : Nat) x x' pl pl', as[k]? = some x → as[k']? = some x' → q ≤ k → q ≤ k' → D k → D k' → kindOf x.op = 1 → kindOf x'.op = 1 → wanted x.gd (TM k) = some true → wanted x'.gd (TM k') = some true →
    σ (h0.nx + x.lo) = some pl → σ (h0.nx + x'.lo) = some pl' → pl.blk = pl'.blk → k = k'
  none : ∀ (k : Nat) x, as[k]? = some x → ¬ D k → kindOf x.op = 1 → σ (h0.nx + x.lo) = none
  tr : TRel σ tmD a.tmps
  sz : a.tmps.size = nt
  df : a.defers = a0.defers
  td : TD as VV (TM 0) D tmD

/-- A contract's step: on the same heap (a quiet operation), or an effect. -/
theorem Inv.contract (env : Env P nt ops cnt as ord rec h0 TM HH VV) {D : Nat → Prop} {f q : Nat} {a' : Act}
    (inv : Inv P nt ops cnt as ord h0 TM HH VV σ0 w0 a0 D f q σ w a tmD) {k f' q' : Nat} {x : AOper} (hx : as[k]? = some x) (hk1 : kindOf x.op ≠ 1) (hpre : ∀ l, Bf ops ord l k → D l)
    (hfq : f' ≤ q') (hqq : q ≤ q') (hflow : f' = 0 ∨ ∃ (e : Nat) (x : AOper), f' = e + 1 ∧ as[e]? = some x ∧ kindOf x.op = 2)
    (hlow : ∀ (l : Nat) y, as[l]? = some y → kindOf y.op = 2 → (D l ∨ l = k ↔ l < f'))
    (p1 : WR P σ' (HH q') w') (p2 : Ext σ (HH q) w σ' (HH q') w') (p3 : TRel σ' (Tm.puts x.dst tmD (VV k)) a'.tmps) (p4 : a'.tmps.size = nt) (p5 : a'.defers = a.defers) :
    Inv P nt ops cnt as ord h0 TM HH VV σ0 w0 a0 (fun l => D l ∨ l = k) f' q' σ' w' a' (Tm.puts x.dst tmD (VV k)) where
  fq := hfq
  flow := hflow
  lowE := hlow
  cl := fun l m hb hD => .inl (by
    rcases hD with hD | rfl
    · exact inv.cl _ _ hb hD
    · exact hpre _ hb)
  wr := p1
  ext := inv.ext.trans p2
  nx := Nat.le_trans inv.nx p2.nx
  early := fun l y hy hql hD h1 hw => by
    have hD' : D l := hD.resolve_right (fun e => by subst e; rw [hx] at hy; cases hy; exact hk1 h1)
    obtain ⟨o, mk, pl, g1, g2⟩ := inv.early l y hy (by omega) hD' h1 hw
    exact ⟨o, mk, pl, g1, g2.ext p2⟩
  dist := fun l l' y y' pl pl' hy hy' hql hql' hD hD' h1 h1' hw hw' e e' eb => by
    have hDl : D l := hD.resolve_right (fun e => by subst e; rw [hx] at hy; cases hy; exact hk1 h1)
    have hDl' : D l' := hD'.resolve_right (fun e => by subst e; rw [hx] at hy'; cases hy'; exact hk1 h1')
    obtain ⟨_, _, pl1, _, g, _⟩ := inv.early l y hy (by omega) hDl h1 hw
    obtain ⟨_, _, pl2, _, g', _⟩ := inv.early l' y' hy' (by omega) hDl' h1' hw'
    rw [p2.le _ _ g] at e; cases e
    rw [p2.le _ _ g'] at e'; cases e'
    exact inv.dist l l' y y' _ _ hy hy' (by omega) (by omega) hDl hDl' h1 h1' hw hw' g g' eb
  none := fun l y hy hD h1 => by
    have hlo := env.rc.lo_lt hy h1
    rw [p2.new _ (Nat.lt_of_lt_of_le (Nat.add_lt_add_left hlo _) inv.nx)]
    exact inv.none l y hy (fun e => hD (.inl e)) h1
  tr := p3
  sz := p4
  df := p5.trans inv.df
  td := inv.td.put env.rc hx

/-- The heap is taken over one place. -/
theorem Inv.join (env : Env P nt ops cnt as ord rec h0 TM HH VV) {D : Nat → Prop} {f q : Nat}
    (inv : Inv P nt ops cnt as ord h0 TM HH VV σ0 w0 a0 D f q σ w a tmD) {x : AOper} (hx : as[q]? = some x) (hk2 : kindOf x.op ≠ 2) (hD : kindOf x.op = 1 → D q) :
    Inv P nt ops cnt as ord h0 TM HH VV σ0 w0 a0 D f (q + 1) σ w a tmD := by
  have st := (env.tr.step q x hx).1
  have same : HH (q + 1) = HH q → Inv P nt ops cnt as ord h0 TM HH VV σ0 w0 a0 D f (q + 1) σ w a tmD := fun e =>
    { inv with
      fq := by have := inv.fq; omega
      wr := by rw [e]; exact inv.wr
      ext := by rw [e]; exact inv.ext
      nx := by rw [e]; exact inv.nx
      early := fun l y hy hql => by rw [e]; exact inv.early l y hy (by omega)
      dist := fun l l' y y' pl pl' hy hy' hql hql' => inv.dist l l' y y' pl pl' hy hy' (by omega) (by omega) }
  rcases kindOf_cases x.op with hk | hk | hk
  · rw [gevD_zero hk, gev_eq] at st
    rcases ifWanted_some st with ⟨_, st⟩ | ⟨_, _, st⟩
    · simp only [oev, hk] at st
      unfold retQ at st
      split at st
      · simp only [Option.some.injEq, Prod.mk.injEq] at st; exact same st.2.symm
      · cases st
    · exact same st
  · rw [gevD_one hk] at st
    rcases ifWanted_some st with ⟨hw, st⟩ | ⟨_, _, st⟩
    · obtain ⟨o, mk, g1, g2, g3⟩ := retAt_some st
      obtain ⟨o', mk', pl, k1, k2⟩ := inv.early q x hx (Nat.le_refl _) (hD hk) hk hw
      rw [g1] at k1; cases k1
      obtain ⟨e1, e2, e3, e4⟩ := k2
      exact
        { inv with
          fq := by have := inv.fq; omega
          wr := by rw [g3]; exact inv.wr.join e1 e2 e4
          ext := by rw [g3]; exact inv.ext.join e1 e3
          nx := by rw [g3]; exact inv.nx
          early := fun l y hy hql hDl h1 hwl => by
            obtain ⟨o2, mk2, pl2, n1, n2, n3, n4, n5⟩ := inv.early l y hy (by omega) hDl h1 hwl
            refine ⟨o2, mk2, pl2, n1, n2, n3, n4, fun hn => ?_⟩
            rw [g3] at hn
            rcases Nm_join e1 hn with e | e
            · have := inv.dist l q y x pl2 pl hy hx (by omega) (Nat.le_refl _) hDl (hD hk) h1 hk hwl hw n2 e1 e
              omega
            · exact n5 e
          dist := fun l l' y y' pl pl' hy hy' hql hql' => inv.dist l l' y y' pl pl' hy hy' (by omega) (by omega) }
    · exact same st
  · exact absurd hk hk2

theorem Inv.joins (env : Env P nt ops cnt as ord rec h0 TM HH VV) {D : Nat → Prop} {f : Nat} : ∀ (m q : Nat), Inv P nt ops cnt as ord h0 TM HH VV σ0 w0 a0 D f q σ w a tmD →
    (∀ (k : Nat) x, as[k]? = some x → q ≤ k → k < q + m → kindOf x.op ≠ 2 ∧ (kindOf x.op = 1 → D k)) → q + m ≤ as.length → Inv P nt ops cnt as ord h0 TM HH VV σ0 w0 a0 D f (q + m) σ w a tmD
  | 0, q, inv, _, _ => inv
  | m + 1, q, inv, hh, hle => by
    have hx : as[q]? = some as[q] := List.getElem?_eq_getElem (by omega)
    obtain ⟨h2, h1⟩ := hh q _ hx (Nat.le_refl _) (by omega)
    have := (inv.join env hx h2 h1).joins env m (q + 1) (fun k x hk h3 h4 => hh k x hk (by omega) (by omega)) (by omega)
    rw [show q + 1 + m = q + (m + 1) by omega] at this
    exact this

/-- What is to be shown of an operation in its turn. -/
def Turn (r : Option Nat) (n : Nat) (P : Program) (ops : Array Oper) (o : Oper) (a : Act) (w : World) (next : Act → World → Prop) (Q : Exit → Act → World → Prop) : Prop :=
  if Region.wanted o (yielded ops a.tmps) then o.wpIn (Fd r) n P a w next Q else (∀ f, o.about P w a.eval = some f → (Fd r).fn f) ∧ next (a.put o.dst undef) w

/-- A quiet operation. -/
theorem Inv.quiet (env : Env P nt ops cnt as ord rec h0 TM HH VV) {D : Nat → Prop} {f : Nat} {r : Option Nat} {n : Nat} {next : Act → World → Prop} {Q : Exit → Act → World → Prop}
    (inv : Inv P nt ops cnt as ord h0 TM HH VV σ0 w0 a0 D f f σ w a tmD) {k lo hi : Nat} {x : AOper} {o : Oper} (hx : as[k]? = some x) (hk : kindOf x.op = 0) (hnD : ¬ D k) (hpre : ∀ l, Bf ops ord l k → D l)
    (hc : cOper P nt ops lo hi o = some x)
    (hn : ∀ f' σ' w' a' tm', Inv P nt ops cnt as ord h0 TM HH VV σ0 w0 a0 (fun l => D l ∨ l = k) f' f' σ' w' a' tm' → next a' w') : Turn r n P ops o a w next Q := by
  have hlen : k < as.length := (List.getElem?_eq_some_iff.1 hx).1
  have ag := TD.agree env.rc hx hnD inv.cl hpre (TD.canon env.rc env.tr.toTraceC k (by omega)) inv.td
  have st := (env.tr.step k x hx).1
  rw [gevD_zero hk, gev_eq] at st
  have hv : gev x rec tmD (HH f) = some (VV k, HH f) := by
    rw [gev_eq, ← ag.gd]
    rcases ifWanted_some st with ⟨hw, st⟩ | ⟨hw, hv, _⟩
    · rw [hw]
      simp only [ifWanted]
      simp only [oev, hk] at st ⊢
      unfold retQ at st
      split at st
      · next v0 h0' e =>
        simp only [Option.some.injEq, Prod.mk.injEq] at st
        have : qev x.op tmD (HH f) = some (VV k) := by
          rw [← qev_congr ag.op]
          cases hh : heapy x.op with
          | false => rw [qev_calm (h' := HH k) hh, e, st.1]
          | true =>
            refine env.tr.snap k x hx hk hh hw f ?_ ?_ ?_
            · rcases inv.flow with h | ⟨e', y, h1, h2, h3⟩
              · exact .inl h
              · exact .inr ⟨e', y, h1, h2, h3⟩
            · -- nothing that must come ahead is lacking
              rcases Nat.lt_or_ge (cntE as f) x.lo with hlt | hge
              · exfalso
                have htot := env.rc.lo_le hx hk
                obtain ⟨e', y, g1, g2, g3, g4⟩ := cntE_next as f (by omega)
                have hr := env.rc.rank e' y g2 g3
                have hb := (env.rc.f7 hx g2 hk hh g3).1 (by omega)
                have := (inv.lowE e' y g2 g3).1 (hpre _ hb)
                omega
              · exact hge
            · rcases Nat.lt_or_ge x.hi (cntE as f) with hlt | hge
              · exfalso
                obtain ⟨e', y, g1, g2, g3, g4⟩ := cntE_prev as f x.hi hlt
                have hr := env.rc.rank e' y g2 g3
                have hb := (env.rc.f7 hx g2 hk hh g3).2 (by omega)
                exact hnD (inv.cl _ _ hb ((inv.lowE e' y g2 g3).2 g1))
              · exact hge
        rw [this]; rfl
      · cases st
    · rw [hw, hv]; rfl
  refine gev_sound env.ro ⟨inv.wr, inv.tr⟩ inv.sz hc hv (fun σ' a' w' p1 p2 p3 p4 p5 => ?_)
  refine hn f σ' w' a' _ (inv.contract env hx (by omega) hpre (Nat.le_refl _) (Nat.le_refl _) inv.flow (fun l y hy h2 => ?_) p1 p2 p3 p4 p5)
  rw [← inv.lowE l y hy h2]
  exact ⟨fun e => e.resolve_right (fun e' => by subst e'; rw [hx] at hy; cases hy; omega), .inl⟩

/-- An effect. -/
theorem Inv.effect (env : Env P nt ops cnt as ord rec h0 TM HH VV) {D : Nat → Prop} {f : Nat} {r : Option Nat} {n : Nat} {next : Act → World → Prop} {Q : Exit → Act → World → Prop}
    (inv : Inv P nt ops cnt as ord h0 TM HH VV σ0 w0 a0 D f f σ w a tmD) {k lo hi : Nat} {x : AOper} {o : Oper} (hx : as[k]? = some x) (hk : kindOf x.op = 2) (hnD : ¬ D k) (hpre : ∀ l, Bf ops ord l k → D l)
    (hc : cOper P nt ops lo hi o = some x)
    (hn : ∀ f' σ' w' a' tm', Inv P nt ops cnt as ord h0 TM HH VV σ0 w0 a0 (fun l => D l ∨ l = k) f' f' σ' w' a' tm' → next a' w') : Turn r n P ops o a w next Q := by
  have hlen : k < as.length := (List.getElem?_eq_some_iff.1 hx).1
  have hfk : f ≤ k := by
    rcases Nat.lt_or_ge k f with h | h
    · exact absurd ((inv.lowE k x hx hk).2 h) hnD
    · exact h
  have hj := inv.joins env (k - f) f (fun l y hy h1 h2 => by
    have hlk : l < k := by omega
    refine ⟨fun e => ?_, fun e => hpre _ (env.rc.f1 hlk hy hx hk (by omega))⟩
    have := (inv.lowE l y hy e).1 (hpre _ (env.rc.f1 hlk hy hx hk (by omega)))
    omega) (by omega)
  rw [show f + (k - f) = k by omega] at hj
  have ag := TD.agree env.rc hx hnD inv.cl hpre (TD.canon env.rc env.tr.toTraceC k (by omega)) inv.td
  have st := (env.tr.step k x hx).1
  rw [gevD_two hk, gev_congr ag] at st
  refine gev_sound env.ro ⟨hj.wr, hj.tr⟩ hj.sz hc st (fun σ' a' w' p1 p2 p3 p4 p5 => ?_)
  refine hn (k + 1) σ' w' a' _ (hj.contract env hx (by omega) hpre (Nat.le_refl _) (by omega) (.inr ⟨k, x, rfl, hx, hk⟩) (fun l y hy h2 => ?_) p1 p2 p3 p4 p5)
  rcases Nat.lt_trichotomy l k with hlt | rfl | hgt
  · exact ⟨fun _ => by omega, fun _ => .inl (hpre _ (env.rc.f1 hlt hy hx hk (by omega)))⟩
  · exact ⟨fun _ => by omega, fun _ => .inr rfl⟩
  · refine ⟨fun e => ?_, fun e => by omega⟩
    rcases e with e | e
    · exact absurd (inv.cl _ _ (env.rc.f1 hgt hx hy h2 (by omega)) e) hnD
    · omega

end
end Go.Proofs.YtgnpoaoekhplhaaGreatDoor.AE
namespace Go.Proofs.YtgnpoaoekhplhaaGreatDoor.AE
open Go
variable {P : Program} {w w' w0 : World} {σ σ' σ0 : Sg} {tm tm' tmD : Tm} {a a0 : Act} {h h' h0 : Hp}
section
variable {nt cnt : Nat} {ops : Array Oper} {as : List AOper} {ord : List Nat} {rec : RecT} {TM : Nat → Tm} {HH : Nat → Hp} {VV : Nat → V}

/-- A block is laid. -/
theorem Inv.alloc (env : Env P nt ops cnt as ord rec h0 TM HH VV) {D : Nat → Prop} {f : Nat} {r : Option Nat} {n : Nat} {next : Act → World → Prop} {Q : Exit → Act → World → Prop}
    (inv : Inv P nt ops cnt as ord h0 TM HH VV σ0 w0 a0 D f f σ w a tmD) {k lo hi : Nat} {x : AOper} {o : Oper} (hx : as[k]? = some x) (hk : kindOf x.op = 1) (hnD : ¬ D k) (hpre : ∀ l, Bf ops ord l k → D l)
    (hc : cOper P nt ops lo hi o = some x)
    (hn : ∀ f' σ' w' a' tm', Inv P nt ops cnt as ord h0 TM HH VV σ0 w0 a0 (fun l => D l ∨ l = k) f' f' σ' w' a' tm' → next a' w') : Turn r n P ops o a w next Q := by
  have hlen : k < as.length := (List.getElem?_eq_some_iff.1 hx).1
  have ag := TD.agree env.rc hx hnD inv.cl hpre (TD.canon env.rc env.tr.toTraceC k (by omega)) inv.td
  have st := (env.tr.step k x hx).1
  rw [gevD_one hk] at st
  obtain ⟨c1, c2, c3, c4, _, _⟩ := cOper_some hc
  have hnone := inv.none k x hx hnD hk
  have hlo := env.rc.lo_lt hx hk
  have hfk : f ≤ k := by
    rcases inv.flow with h | ⟨e, y, h1, h2, h3⟩
    · omega
    · rcases Nat.lt_or_ge k f with h | h
      · exfalso
        have hke : k ≠ e := fun e' => by subst e'; rw [hx] at h2; cases h2; omega
        exact hnD (inv.cl _ _ (env.rc.f1 (by omega) hx h2 h3 (by omega)) ((inv.lowE e y h2 h3).2 (by omega)))
      · exact h
  have hlow : ∀ (l : Nat) y, as[l]? = some y → kindOf y.op = 2 → (D l ∨ l = k ↔ l < f) := fun l y hy h2 => by
    rw [← inv.lowE l y hy h2]
    exact ⟨fun e => e.resolve_right (fun e' => by subst e'; rw [hx] at hy; cases hy; omega), .inl⟩
  have hcl : ∀ l m, Bf ops ord l m → (D m ∨ m = k) → (D l ∨ l = k) := fun l m hb hD => .inl (by
    rcases hD with hD | rfl
    · exact inv.cl _ _ hb hD
    · exact hpre _ hb)
  rcases ifWanted_some st with ⟨hw, st⟩ | ⟨hw, hv, _⟩
  · obtain ⟨ob, mk, g1, g2, g3⟩ := retAt_some st
    have hw' := hw
    rw [ag.gd] at hw'
    have g1' := g1
    rw [aev_congr ag.op] at g1'
    have hcx : Cx P σ tmD (HH f) w a := ⟨inv.wr, inv.tr⟩
    unfold Turn
    rw [if_pos (wanted_run c2 hw' inv.tr)]
    refine ⟨fun _ _ => trivial, ?_⟩
    rw [Oper.semAt_eq _ _ _ (not_defer c1)]
    obtain ⟨C, ty, cs, y, rfl, h2, h3, h4⟩ := (aev_sound hcx c1 g1').out
    rw [h3]
    have hle := Sg.le_up (σ := σ) (⟨w.heap.size, 0, 0, 1⟩ : Pl) hnone
    have hkeep : ∀ b, b < w.heap.size → (w.alloc (.cells C ty)).heap[b]? = w.heap[b]? := fun b hb => by
      show (w.heap.push _)[b]? = _
      rw [Array.getElem?_push_lt hb, Array.getElem?_eq_getElem hb]
    have hsz : w.heap.size ≤ (w.alloc (.cells C ty)).heap.size := by show _ ≤ (w.heap.push _).size; simp
    have hblk : BlkOK P (σ.up (h0.nx + x.lo) ⟨w.heap.size, 0, 0, 1⟩) (w.alloc (.cells C ty)) ⟨w.heap.size, 0, 0, 1⟩ (.c cs ty Option.none false false 0) :=
      ⟨C, 0, 0, by show (w.heap.push _)[w.heap.size]? = _; simp, fun i u hu => (by
        obtain ⟨z, q1, q2⟩ := concs_get h2 hu
        exact ⟨z, conc_mono hle _ _ q1, by rw [Nat.zero_add]; simpa using q2⟩), fun _ j _ _ hh => by omega, fun _ _ => .inl rfl, rfl, by have := concs_length h2; simpa using this⟩
    obtain ⟨q1, q2, q3⟩ := puts_rel (a := a) (inv.tr.mono hle) inv.sz c4 (show conc _ (VV k) = some y by rw [g2]; exact h4 _ _ (Sg.up_same _ _ _))
    have hup : ∀ (l : Nat) z, as[l]? = some z → kindOf z.op = 1 → l ≠ k → (σ.up (h0.nx + x.lo) ⟨w.heap.size, 0, 0, 1⟩) (h0.nx + z.lo) = σ (h0.nx + z.lo) := fun l z hz h1 hlk =>
      Sg.up_ne _ _ (by have := env.rc.f6 hlk hz hx h1 hk; omega)
    have hlive : ∀ b, Nm (σ.up (h0.nx + x.lo) ⟨w.heap.size, 0, 0, 1⟩) (HH f) b → Nm σ (HH f) b := fun b ⟨j, o', p, n1, n2, n3⟩ => ⟨j, o', p, n1, by rw [live_up inv.wr hnone n1] at n2; exact n2, n3⟩
    have hnmlt : ∀ b, Nm σ (HH f) b → b < w.heap.size := fun b ⟨j, o', p, n1, n2, n3⟩ => by
      obtain ⟨p', m1, m2⟩ := inv.wr.blk _ _ n1
      rw [n2] at m1; cases m1
      rw [← n3]; exact m2.lt
    refine hn f (σ.up (h0.nx + x.lo) ⟨w.heap.size, 0, 0, 1⟩) (w.alloc (.cells C ty)) _ (Tm.puts x.dst tmD (VV k)) ?_
    rw [← c3] at q1 q2 q3 ⊢
    exact
      { fq := Nat.le_refl _
        flow := inv.flow
        lowE := hlow
        cl := hcl
        wr := inv.wr.name hnone (Nat.lt_of_lt_of_le (Nat.add_lt_add_left hlo _) inv.nx) hkeep
        ext := inv.ext.name inv.wr hnone (Nat.le_add_right _ _) hkeep hsz ⟨rfl, rfl, rfl⟩
        nx := inv.nx
        early := fun l z hz hfl hD h1 hwl => by
          by_cases hlk : l = k
          · subst hlk
            rw [hx] at hz; cases hz
            exact ⟨_, mk, _, g1, Sg.up_same _ _ _, hblk, inv.ext.size, fun hh => by
              have := hnmlt _ (hlive _ hh)
              simp only at this
              omega⟩
          · obtain ⟨o2, mk2, pl2, n1, n2, n3, n4, n5⟩ := inv.early l z hz hfl (hD.resolve_right hlk) h1 hwl
            exact ⟨o2, mk2, pl2, n1, by rw [hup l z hz h1 hlk]; exact n2, n3.mono hle (hkeep _ n3.lt), n4, fun hh => n5 (hlive _ hh)⟩
        dist := fun l l' z z' pl pl' hz hz' hfl hfl' hD hD' h1 h1' hwl hwl' e e' eb => by
          by_cases hlk : l = k
          · by_cases hlk' : l' = k
            · omega
            · exfalso
              subst hlk
              rw [hx] at hz; cases hz
              rw [Sg.up_same] at e; cases e
              obtain ⟨_, _, pl2, _, n2, n3, _⟩ := inv.early l' z' hz' hfl' (hD'.resolve_right hlk') h1' hwl'
              rw [hup l' z' hz' h1' hlk', n2] at e'; cases e'
              have := n3.lt
              simp only at eb
              omega
          · by_cases hlk' : l' = k
            · exfalso
              subst hlk'
              rw [hx] at hz'; cases hz'
              rw [Sg.up_same] at e'; cases e'
              obtain ⟨_, _, pl2, _, n2, n3, _⟩ := inv.early l z hz hfl (hD.resolve_right hlk) h1 hwl
              rw [hup l z hz h1 hlk, n2] at e; cases e
              have := n3.lt
              simp only at eb
              omega
            · rw [hup l z hz h1 hlk] at e
              rw [hup l' z' hz' h1' hlk'] at e'
              exact inv.dist l l' z z' pl pl' hz hz' hfl hfl' (hD.resolve_right hlk) (hD'.resolve_right hlk') h1 h1' hwl hwl' e e' eb
        none := fun l z hz hD h1 => by
          have hlk : l ≠ k := fun e => hD (.inr e)
          rw [hup l z hz h1 hlk]
          exact inv.none l z hz (fun e => hD (.inl e)) h1
        tr := q1
        sz := q2
        df := q3.trans inv.df
        td := inv.td.put env.rc hx }
  · rw [ag.gd] at hw
    unfold Turn
    rw [if_neg (by rw [wanted_run c2 hw inv.tr]; simp)]
    refine ⟨fun _ _ => trivial, ?_⟩
    obtain ⟨q1, q2, q3⟩ := puts_rel (a := a) (v := VV k) (x := undef) inv.tr inv.sz c4 (by rw [hv]; rfl)
    refine hn f σ w _ (Tm.puts x.dst tmD (VV k)) ?_
    rw [← c3] at q1 q2 q3 ⊢
    have hnw : ∀ (l : Nat) z, as[l]? = some z → wanted z.gd (TM l) = some true → l ≠ k := fun l z hz hwl e => by
      subst e; rw [hx] at hz; cases hz
      rw [ag.gd, hw] at hwl; cases hwl
    exact
      { inv with
        lowE := hlow
        cl := hcl
        early := fun l z hz hfl hD h1 hwl => inv.early l z hz hfl (hD.resolve_right (hnw l z hz hwl)) h1 hwl
        dist := fun l l' z z' pl pl' hz hz' hfl hfl' hD hD' h1 h1' hwl hwl' => inv.dist l l' z z' pl pl' hz hz' hfl hfl' (hD.resolve_right (hnw l z hz hwl)) (hD'.resolve_right (hnw l' z' hz' hwl')) h1 h1' hwl hwl'
        none := fun l z hz hD h1 => inv.none l z hz (fun e => hD (.inl e)) h1
        tr := q1
        sz := q2
        df := q3.trans inv.df
        td := inv.td.put env.rc hx }

theorem Inv.turn (env : Env P nt ops cnt as ord rec h0 TM HH VV) {D : Nat → Prop} {f : Nat} {r : Option Nat} {n : Nat} {next : Act → World → Prop} {Q : Exit → Act → World → Prop}
    (inv : Inv P nt ops cnt as ord h0 TM HH VV σ0 w0 a0 D f f σ w a tmD) {k lo hi : Nat} {x : AOper} {o : Oper} (hx : as[k]? = some x) (hnD : ¬ D k) (hpre : ∀ l, Bf ops ord l k → D l)
    (hc : cOper P nt ops lo hi o = some x)
    (hn : ∀ f' σ' w' a' tm', Inv P nt ops cnt as ord h0 TM HH VV σ0 w0 a0 (fun l => D l ∨ l = k) f' f' σ' w' a' tm' → next a' w') : Turn r n P ops o a w next Q := by
  rcases kindOf_cases x.op with hk | hk | hk
  · exact inv.quiet env hx hk hnD hpre hc hn
  · exact inv.alloc env hx hk hnD hpre hc hn
  · exact inv.effect env hx hk hnD hpre hc hn
end
end Go.Proofs.YtgnpoaoekhplhaaGreatDoor.AE
namespace Go.Proofs.YtgnpoaoekhplhaaGreatDoor.AE
open Go
variable {P : Program} {w w' w0 : World} {σ σ' σ0 : Sg} {tm tm' tmD : Tm} {a a0 : Act} {h h' h0 : Hp}

/-- The operations that are not listed yet. -/
def unl (listed : Array Bool) (n : Nat) : Nat := ((List.range n).filter fun i => !listed.getD i false).length

theorem filter_lt {α : Type} {p q : α → Bool} : ∀ {l : List α} {x : α}, x ∈ l → p x = true → q x = false → (∀ y, q y = true → p y = true) → (l.filter q).length < (l.filter p).length
  | [], x, hx, _, _, _ => by cases hx
  | y :: l, x, hx, h1, h2, h3 => by
    have hle : ∀ l : List α, (l.filter q).length ≤ (l.filter p).length := by
      intro l
      induction l with
      | nil => exact Nat.le_refl _
      | cons z l ih =>
        simp only [List.filter_cons]
        cases hq : q z with
        | true => rw [if_pos rfl, h3 z hq, if_pos rfl]; simp; exact ih
        | false =>
          rw [if_neg (by simp)]
          split
          · simp; omega
          · exact ih
    simp only [List.filter_cons]
    rcases List.mem_cons.1 hx with rfl | hx
    · rw [h1, h2, if_pos rfl, if_neg (by simp)]
      have := hle l
      simp; omega
    · have ih := filter_lt hx h1 h2 h3
      cases hq : q y with
      | true => rw [if_pos rfl, h3 y hq, if_pos rfl]; simp; exact ih
      | false =>
        rw [if_neg (by simp)]
        split
        · simp; omega
        · exact ih

section
variable {nt cnt : Nat} {ops : Array Oper} {as : List AOper} {ord : List Nat} {rec : RecT} {TM : Nat → Tm} {HH : Nat → Hp} {VV : Nat → V}

/-- All has been carried out. -/
theorem Inv.done (env : Env P nt ops cnt as ord rec h0 TM HH VV) {D : Nat → Prop} {f : Nat}
    (inv : Inv P nt ops cnt as ord h0 TM HH VV σ0 w0 a0 D f f σ w a tmD) (hall : ∀ k, k < as.length → D k) :
    WR P σ (HH as.length) w ∧ Ext σ0 h0 w0 σ (HH as.length) w ∧ TRel σ (TM as.length) a.tmps ∧ a.tmps.size = nt ∧ a.defers = a0.defers := by
  have hf : f ≤ as.length := by
    rcases inv.flow with h | ⟨e, y, h1, h2, h3⟩
    · omega
    · have := (List.getElem?_eq_some_iff.1 h2).1; omega
  have hj := inv.joins env (as.length - f) f (fun l y hy h1 h2 => by
    have hl := (List.getElem?_eq_some_iff.1 hy).1
    refine ⟨fun e => ?_, fun _ => hall l hl⟩
    have := (inv.lowE l y hy e).1 (hall l hl)
    omega) (by omega)
  rw [show f + (as.length - f) = as.length by omega] at hj
  refine ⟨hj.wr, hj.ext, fun t v hv => ?_, hj.sz, hj.df⟩
  have := (TD.canon env.rc env.tr.toTraceC as.length (Nat.le_refl _)).get_eq inv.td (t := t) (fun k x hx _ => by
    have hl := (List.getElem?_eq_some_iff.1 hx).1
    exact ⟨fun _ => hall k hl, fun _ => hl⟩)
  rw [this] at hv
  exact inv.tr t v hv

theorem listed_lt {listed : Array Bool} {i : Nat} (h : listed.getD i false = true) : i < listed.size := by
  rcases Nat.lt_or_ge i listed.size with h' | h'
  · exact h'
  · rw [Array.getD_eq_getD_getElem?, Array.getElem?_eq_none h'] at h; cases h

theorem ready_pre (env : Env P nt ops cnt as ord rec h0 TM HH VV) {D : Nat → Prop} {listed : Array Bool} (hcl : ∀ l m, Bf ops ord l m → D m → D l) (hL : ∀ (k i : Nat), ord[k]? = some i → (D k ↔ listed.getD i false = true))
    (hsz : listed.size = ops.size) {k i : Nat} {o : Oper} (hk : ord[k]? = some i) (ho : ops[i]? = some o) (hall : ∀ e ∈ o.after, Region.binds .any e = true → listed.getD e.on false = true) : ∀ l, Bf ops ord l k → D l := by
  rintro l ⟨j, i', h1, h2, h3⟩
  rw [hk] at h2; cases h2
  obtain ⟨e, he, hb, hj⟩ := (bef_iff ho).1 h3
  have hl := hall e he hb
  rcases hj with rfl | ⟨_, hj⟩
  · exact (hL l _ h1).2 hl
  · obtain ⟨m, hm⟩ := env.rc.all e.on (by rw [← hsz]; exact listed_lt hl)
    exact hcl l m ⟨j, e.on, h1, hm, hj⟩ ((hL m _ hm).2 hl)

/-- While something is not listed, something is ready. -/
theorem ready_some (env : Env P nt ops cnt as ord rec h0 TM HH VV) {D : Nat → Prop} {listed : Array Bool} (hL : ∀ (k i : Nat), ord[k]? = some i → (D k ↔ listed.getD i false = true))
    (hsz : listed.size = ops.size) (hr : Region.ready .any ops listed = []) : ∀ k, k < as.length → D k := by
  intro k
  induction k using Nat.strongRecOn with
  | _ k ih =>
    intro hk
    have hk' : k < ord.length := by rw [env.rc.olen, ← env.rc.alen]; exact hk
    have hi : ord[k]? = some ord[k] := List.getElem?_eq_getElem hk'
    generalize ord[k] = i at hi
    obtain ⟨o, x, _, _, ho, hx, _⟩ := env.rc.ent k i hi
    obtain ⟨b1, b2, _, _, b5⟩ := chk1_spec (env.rc.c1 k i x hi hx)
    simp only at b1 b2 b5
    rcases Classical.em (listed.getD i false = true) with hd | hd
    · exact (hL k i hi).2 hd
    · exfalso
      have hmem : i ∈ Region.ready .any ops listed := by
        unfold Region.ready
        rw [List.mem_filter]
        refine ⟨List.mem_range.2 b1, ?_⟩
        have hge : listed.getD i true = false := by
          have hi' : i < listed.size := by rw [hsz]; exact b1
          rw [Array.getD_eq_getD_getElem?, Array.getElem?_eq_getElem hi'] at hd ⊢
          simpa using hd
        rw [hge, ho]
        simp only [Bool.not_false, Bool.true_and, Option.map_some, Option.getD_some]
        rw [Array.all_eq_true_iff_forall_mem]
        intro e he
        cases hb : Region.binds .any e with
        | false => rfl
        | true =>
          simp only [Bool.not_true, Bool.false_or]
          have hbef : bef (Region.before ops) e.on i = true := (bef_iff ho).2 ⟨e, he, hb, .inl rfl⟩
          have hlt : e.on < ops.size := by
            rcases Nat.lt_or_ge e.on ops.size with h | h
            · exact h
            · exfalso
              have : (((Region.before ops).getD i 0).testBit e.on) = false := Nat.testBit_lt_two_pow (Nat.lt_of_lt_of_le b2 (Nat.pow_le_pow_right (by omega) h))
              unfold bef at hbef
              rw [this] at hbef; cases hbef
          obtain ⟨m, hm⟩ := env.rc.all e.on hlt
          obtain ⟨_, y, _, _, _, hy, _⟩ := env.rc.ent m e.on hm
          have hmk : m < k := by
            rcases Nat.lt_trichotomy m k with h | rfl | h
            · exact h
            · rw [hi] at hm; cases hm
              rw [b5] at hbef; cases hbef
            · exact absurd ⟨e.on, i, hm, hi, hbef⟩ (env.rc.f2 h hx hy)
          exact (hL m _ hm).1 (ih m hmk (by omega))
      rw [hr] at hmem; cases hmem
end
end Go.Proofs.YtgnpoaoekhplhaaGreatDoor.AE
namespace Go.Proofs.YtgnpoaoekhplhaaGreatDoor.AE
open Go
variable {P : Program} {w w' w0 : World} {σ σ' σ0 : Sg} {tm tm' tmD : Tm} {a a0 : Act} {h h' h0 : Hp}
section
variable {nt cnt : Nat} {ops : Array Oper} {as : List AOper} {ord : List Nat} {rec : RecT} {TM : Nat → Tm} {HH : Nat → Hp} {VV : Nat → V}

theorem lin_sound (env : Env P nt ops cnt as ord rec h0 TM HH VV) {r : Option Nat} {n : Nat} {Q : Exit → Act → World → Prop}
    (hQ : ∀ σ' w' a', WR P σ' (HH as.length) w' → Ext σ0 h0 w0 σ' (HH as.length) w' → TRel σ' (TM as.length) a'.tmps → a'.tmps.size = nt → a'.defers = a0.defers → Q .normal a' w') :
    ∀ (fuel t : Nat) (listed : Array Bool) (D : Nat → Prop) (f : Nat) (σ : Sg) (w : World) (a : Act) (tmD : Tm), Inv P nt ops cnt as ord h0 TM HH VV σ0 w0 a0 D f f σ w a tmD →
      (∀ (k i : Nat), ord[k]? = some i → (D k ↔ listed.getD i false = true)) → listed.size = ops.size → unl listed ops.size ≤ fuel →
      wpOpsIn (Fd r) n P ops Q (Region.linearise.go .any ops fuel t listed []) a w := by
  intro fuel
  induction fuel with
  | zero =>
    intro t listed D f σ w a tmD inv hL hsz hu
    have hall : ∀ k, k < as.length → D k := by
      intro k hk
      have hk' : k < ord.length := by rw [env.rc.olen, ← env.rc.alen]; exact hk
      have hi : ord[k]? = some ord[k] := List.getElem?_eq_getElem hk'
      generalize ord[k] = i at hi
      obtain ⟨o, x, _, _, ho, hx, _⟩ := env.rc.ent k i hi
      have hlt := (chk1_spec (env.rc.c1 k i x hi hx)).1
      refine (hL k i hi).2 ?_
      cases hd : listed.getD i false with
      | true => rfl
      | false =>
        exfalso
        have hm : i ∈ (List.range ops.size).filter fun i => !listed.getD i false := List.mem_filter.2 ⟨List.mem_range.2 hlt, by rw [hd]; rfl⟩
        have := List.length_pos_of_mem hm
        unfold unl at hu
        omega
    obtain ⟨h1, h2, h3, h4, h5⟩ := inv.done env hall
    exact hQ σ w a h1 h2 h3 h4 h5
  | succ fuel ih =>
    intro t listed D f σ w a tmD inv hL hsz hu
    simp only [Region.linearise.go]
    change wpOpsIn (Fd r) n P ops Q (match (Region.ready .any ops listed)[t % (Region.ready .any ops listed).length]? with
      | some i => Region.linearise.go .any ops fuel (t / (Region.ready .any ops listed).length) (listed.setIfInBounds i true) [i]
      | none => [].reverse) a w
    cases hi : (Region.ready .any ops listed)[t % (Region.ready .any ops listed).length]? with
    | none =>
      have hnil : Region.ready .any ops listed = [] := by
        cases hr : Region.ready .any ops listed with
        | nil => rfl
        | cons x xs =>
          rw [hr] at hi
          have hlt : t % (x :: xs).length < (x :: xs).length := Nat.mod_lt _ (by simp)
          rw [List.getElem?_eq_none_iff] at hi
          omega
      obtain ⟨h1, h2, h3, h4, h5⟩ := inv.done env (ready_some env hL hsz hnil)
      exact hQ σ w a h1 h2 h3 h4 h5
    | some i =>
      simp only []
      rw [linearise_go_acc, List.reverse_singleton, List.singleton_append]
      have hmem := List.mem_of_getElem? hi
      unfold Region.ready at hmem
      rw [List.mem_filter, List.mem_range, Bool.and_eq_true] at hmem
      obtain ⟨hlt, hnl, hall⟩ := hmem
      obtain ⟨k, hk⟩ := env.rc.all i hlt
      obtain ⟨o, x, lo, hi', ho, hx, hc⟩ := env.rc.ent k i hk
      rw [ho] at hall
      simp only [Option.map_some, Option.getD_some] at hall
      have hall' : ∀ e ∈ o.after, Region.binds .any e = true → listed.getD e.on false = true := by
        intro e he hb
        have := (Array.all_eq_true_iff_forall_mem.1 hall) e he
        rw [hb] at this
        simpa using this
      have his : i < listed.size := by rw [hsz]; exact hlt
      have hnot : listed.getD i false = false := by
        rw [Array.getD_eq_getD_getElem?, Array.getElem?_eq_getElem his] at hnl ⊢
        simpa using hnl
      have hnD : ¬ D k := fun e => by rw [(hL k i hk).1 e] at hnot; cases hnot
      have hset : ∀ j, (listed.setIfInBounds i true).getD j false = if j = i then true else listed.getD j false := by
        intro j
        rw [Array.getD_eq_getD_getElem?, Array.getD_eq_getD_getElem?, Array.getElem?_setIfInBounds]
        by_cases e : i = j
        · subst e; rw [if_pos rfl, if_pos his, if_pos rfl]; rfl
        · rw [if_neg e, if_neg (fun e' => e e'.symm)]
      have := inv.turn env hx hnD (ready_pre env inv.cl hL hsz hk ho hall') hc (r := r) (n := n) (Q := Q) (next := wpOpsIn (Fd r) n P ops Q (Region.linearise.go .any ops fuel (t / (Region.ready .any ops listed).length) (listed.setIfInBounds i true) []))
        (fun f' σ' w' a' tm' inv' => by
          refine ih _ _ _ f' σ' w' a' tm' inv' (fun l j hl => ?_) (by simpa using hsz) ?_
          · rw [hset]
            by_cases e : j = i
            · subst e; rw [if_pos rfl]; exact ⟨fun _ => rfl, fun _ => .inr (env.rc.inj hl hk)⟩
            · rw [if_neg e, ← hL l j hl]
              exact ⟨fun e' => e'.resolve_right (fun e'' => by subst e''; rw [hk] at hl; cases hl; exact e rfl), .inl⟩
          · have : unl (listed.setIfInBounds i true) ops.size < unl listed ops.size := by
              unfold unl
              refine filter_lt (x := i) (List.mem_range.2 hlt) (by rw [hnot]; rfl) (by rw [hset, if_pos rfl]; rfl) (fun y hy => ?_)
              rw [hset] at hy
              split at hy
              · cases hy
              · exact hy
            omega)
      simp only [wpOpsIn, ho]
      exact this
end

theorem WR.bump (hw : WR P σ h w) (n : Nat) : WR P σ (h.bump n) w where
  blk := hw.blk
  inj := hw.inj
  dom := fun id hid => hw.dom id (by have : (h.bump n).nx = h.nx + n := rfl; omega)
  glob := hw.glob

/-- An open region. -/
theorem regD_sound {rec : RecT} (hrec : RecOK P rec) {nt cnt : Nat} {ops : Array Oper} {as : List AOper} (hc : cReg P nt ops true = some (.regD cnt as)) {r : Option Nat} {n : Nat} {Q : Exit → Act → World → Prop} {id : Nat}
    {tm tm' : Tm} {h h' : Hp} {σ : Sg} {w : World} {a : Act} (hr : runOpsD as h.nx rec tm (h.bump cnt) 0 [h.bump cnt] [] = some (tm', h')) (c : Cx P σ tm h w a) (hs : a.tmps.size = nt)
    (hQ : ∀ σ' w' a', WR P σ' h' w' → Ext σ h w σ' h' w' → TRel σ' tm' a'.tmps → a'.tmps.size = nt → a'.defers = a.defers → Q .normal a' w') :
    (Code.region id ops true).wpIn (Fd r) n P Q a w := by
  obtain ⟨ord, rc⟩ := cReg_rc hc
  obtain ⟨TM, HH, VV, t0, t1, t2, t3, tr⟩ := runOpsD_traceD hr
  have env : Env P nt ops cnt as ord rec h TM HH VV := ⟨rc, tr, hrec⟩
  refine wpIn_region_draw fun t => ?_
  simp only [Region.schedule, rc.fol, Bool.true_or, if_true, Region.linearise]
  have inv : Inv P nt ops cnt as ord h TM HH VV σ w a (fun _ => False) 0 0 σ { w with drawn := w.drawn + 1 } a tm :=
    { fq := Nat.le_refl _
      flow := .inl rfl
      lowE := fun k x _ _ => ⟨fun e => e.elim, fun e => by omega⟩
      cl := fun _ _ _ e => e
      wr := by rw [t1]; exact (c.wr.bump cnt).heap rfl
      ext := by
        rw [t1]
        exact ⟨Sg.le_refl _, Nat.le_refl _, fun _ _ _ => rfl, fun _ _ hh => hh, fun _ _ hh => hh, Nat.le_add_right _ _, fun _ _ => rfl, rfl, rfl, rfl⟩
      nx := by rw [t1]; exact Nat.le_refl _
      early := fun _ _ _ _ e => e.elim
      dist := fun _ _ _ _ _ _ _ _ _ _ e => e.elim
      none := fun k x _ _ _ => c.wr.dom _ (Nat.le_add_right _ _)
      tr := c.tr
      sz := hs
      df := rfl
      td := fun t => ⟨fun _ _ _ _ e => e.elim, fun _ => by rw [t0]⟩ }
  refine lin_sound env (σ0 := σ) (w0 := w) (a0 := a) (fun σ' w' a' p1 p2 p3 p4 p5 => hQ σ' w' a' (by rw [← t3]; exact p1) (by rw [← t3]; exact p2) (by rw [← t2]; exact p3) p4 p5)
    ops.size t _ _ 0 σ _ a tm inv (fun k i hk => ⟨fun e => e.elim, fun e => ?_⟩) (by simp) ?_
  · exfalso
    rw [Array.getD_eq_getD_getElem?, Array.getElem?_replicate] at e
    split at e <;> cases e
  · unfold unl
    exact Nat.le_trans (List.length_filter_le _ _) (by simp)
end Go.Proofs.YtgnpoaoekhplhaaGreatDoor.AE
