/- A part of the proof that croupierlaw11.ModelKnown returns true (its last text says so). No condition of its own. -/
import Derived.Test.YtgnpoaoekhplhaaGreatDoorEe
set_option linter.unusedVariables false
set_option linter.unusedSimpArgs false
set_option linter.unusedSectionVars false
set_option linter.unusedVariables false
/- Symbolic runs: the evaluator's equations as rewrite rules (`go_sem`). -/
namespace Go.Proofs.YtgnpoaoekhplhaaGreatDoor.AE
open Go
variable {fs : Nat → Option AFn} {tb : Tab}

/-! ### Code -/
theorem EV_call {f : Nat} {args : List V} {h : Hp} {np : Nat} {res : List RV} {body : AC} (hf : fs f = some (.fn np res body)) (ht : tb f args h = none) (hn : Nat.beq np args.length = true) :
    EV fs tb (.call f args h) = fnEnd res (cd body (EV fs tb) none ⟨setArgs 0 args .e, [], h⟩) := by
  rw [EV_eq]
  show tabO (tb f args h) (fnO (fs f) (EV fs tb) args h) = _
  rw [ht, hf]
  show (bif Nat.beq np args.length then _ else _) = _
  rw [hn]; rfl
theorem EV_loop (rd : Option Nat) (b : AC) (st : St) : EV fs tb (.loop rd b st) = seqO (cd b (EV fs tb) rd st) fun st => EV fs tb (.loop rd b st) := EV_eq fs tb _
theorem EV_yield (l : Nat) (args : List V) (h : Hp) : EV fs tb (.yield l args h) = round (EV fs tb) l args h := EV_eq fs tb _

variable {rec : RecT} {rd : Option Nat} {st : St} {tm : Tm} {h : Hp}
namespace Sim
@[go_sem] theorem cd_skip : cd .skip rec rd st = some (.code .nor st) := rfl
@[go_sem] theorem cd_reg (ops : List AOper) (tm : Tm) (df : List Nat) (h : Hp) : cd (.reg ops) rec rd ⟨tm, df, h⟩ = regO df (runOps ops rec tm h) := rfl
@[go_sem] theorem cd_regD (cnt : Nat) (ops : List AOper) (tm : Tm) (df : List Nat) (h : Hp) : cd (.regD cnt ops) rec rd ⟨tm, df, h⟩ = regO df (runOpsD ops h.nx rec tm (h.bump cnt) 0 [h.bump cnt] []) := rfl
@[go_sem] theorem cd_seq (a b : AC) : cd (.seq a b) rec rd st = seqO (cd a rec rd st) fun st => cd b rec rd st := rfl
@[go_sem] theorem cd_cond (c : AO) (a b : AC) (tm : Tm) (df : List Nat) (h : Hp) : cd (.cond c a b) rec rd ⟨tm, df, h⟩ = condO (c.ev tm) (cd a rec rd ⟨tm, df, h⟩) (cd b rec rd ⟨tm, df, h⟩) := rfl
@[go_sem] theorem cd_blk (id : Nat) (b : AC) : cd (.blk id b) rec rd st = blkO id (cd b rec rd st) := rfl
@[go_sem] theorem cd_loop (b : AC) : cd (.loop b) rec rd st = rec (.loop rd b st) := rfl
@[go_sem] theorem cd_scp (b : AC) : cd (.scp b) rec rd st = cd b rec rd st := rfl
@[go_sem] theorem cd_exit (id : Nat) : cd (.exit id) rec rd st = some (.code (.exit id) st) := rfl
@[go_sem] theorem cd_ret : cd .ret rec rd st = some (.code .ret st) := rfl
@[go_sem] theorem regO_val (df : List Nat) (tm : Tm) (h : Hp) : regO df (some (tm, h)) = some (.code .nor ⟨tm, df, h⟩) := rfl
@[go_sem] theorem seqO_nor (st : St) (k : St → Option Res) : seqO (some (.code .nor st)) k = k st := rfl
@[go_sem] theorem seqO_ret (st : St) (k : St → Option Res) : seqO (some (.code .ret st)) k = some (.code .ret st) := rfl
@[go_sem] theorem seqO_exit (id : Nat) (st : St) (k : St → Option Res) : seqO (some (.code (.exit id) st)) k = some (.code (.exit id) st) := rfl
@[go_sem] theorem condO_true (a b : Option Res) : condO (some (.b true)) a b = a := rfl
@[go_sem] theorem condO_false (a b : Option Res) : condO (some (.b false)) a b = b := rfl
@[go_sem] theorem blkO_nor (id : Nat) (st : St) : blkO id (some (.code .nor st)) = some (.code .nor st) := rfl
@[go_sem] theorem blkO_ret (id : Nat) (st : St) : blkO id (some (.code .ret st)) = some (.code .ret st) := rfl
@[go_sem] theorem blkO_exit (id j : Nat) (st : St) : blkO id (some (.code (.exit j) st)) = bif Nat.beq j id then some (.code .nor st) else some (.code (.exit j) st) := rfl
@[go_sem] theorem fnEnd_nor (res : List RV) (tm : Tm) (df : List Nat) (h : Hp) : fnEnd res (some (.code .nor ⟨tm, df, h⟩)) = endO res tm (takeDf df h) := rfl
@[go_sem] theorem fnEnd_ret (res : List RV) (tm : Tm) (df : List Nat) (h : Hp) : fnEnd res (some (.code .ret ⟨tm, df, h⟩)) = endO res tm (takeDf df h) := rfl
@[go_sem] theorem takeDf_nil (h : Hp) : takeDf [] h = some h := rfl
@[go_sem] theorem endO_some (res : List RV) (tm : Tm) (h : Hp) : endO res tm (some h) = valR (resV res tm h) h := rfl
@[go_sem] theorem valR_one (v : V) (h : Hp) : valR (some [v]) h = some (.val v h) := rfl
@[go_sem] theorem valR_two (v w : V) (l : List V) (h : Hp) : valR (some (v :: w :: l)) h = some (.val (.tu (v :: w :: l)) h) := rfl
@[go_sem] theorem valR_nil (h : Hp) : valR (some []) h = some (.val (.tu []) h) := rfl
@[go_sem] theorem resV_nil (tm : Tm) (h : Hp) : resV [] tm h = some [] := rfl
@[go_sem] theorem resV_cons (r : RV) (l : List RV) (tm : Tm) (h : Hp) : resV (r :: l) tm h = consO (resV1 r tm h) (resV l tm h) := rfl
@[go_sem] theorem resV1_t (n : Nat) (tm : Tm) (h : Hp) : resV1 (.t n) tm h = tm.get n := rfl
@[go_sem] theorem resV1_c (t : Nat) (n : Option Nat) (tm : Tm) (h : Hp) : resV1 (.c t n) tm h = ldV n (tm.get t) h := rfl
@[go_sem] theorem consO_some {α : Type} (v : α) (l : List α) : consO (some v) (some l) = some (v :: l) := rfl
@[go_sem] theorem setArgs_nil (k : Nat) (tm : Tm) : setArgs k [] tm = tm := rfl
@[go_sem] theorem setArgs_cons (k : Nat) (v : V) (l : List V) (tm : Tm) : setArgs k (v :: l) tm = setArgs (k + 1) l (tm.set k (some v)) := rfl

/-! ### Short words of printed code -/
def mv (d s : Nat) : AOper := ⟨some d, .mov (.t s), none, 0, 0⟩
def ot (d : Nat) (op : AOp) : AOper := ⟨some d, op, none, 0, 0⟩
def ow (d lo hi : Nat) (op : AOp) : AOper := ⟨some d, op, none, lo, hi⟩
def on (lo hi : Nat) (op : AOp) : AOper := ⟨none, op, none, lo, hi⟩
attribute [go_sem] mv ot ow on

/-! ### What is looked at first -/
@[congr] theorem thenO_congr {α : Type} {x y : Option (V × Hp)} {k : V → Hp → Option α} (h : x = y) : thenO x k = thenO y k := by rw [h]
@[congr] theorem seqO_congr {x y : Option Res} {k : St → Option Res} (h : x = y) : seqO x k = seqO y k := by rw [h]
@[congr] theorem condO_congr {x y : Option V} {a b : Option Res} (h : x = y) : condO x a b = condO y a b := by rw [h]
@[congr] theorem ifWanted_congr {x y : Option Bool} {r : Option (V × Hp)} {hp : Hp} (h : x = y) : ifWanted x r hp = ifWanted y r hp := by rw [h]

/-! ### Operations -/
@[go_sem] theorem runOps_nil (tm : Tm) (h : Hp) : runOps [] rec tm h = some (tm, h) := rfl
@[go_sem] theorem runOps_cons (d : Option Nat) (op : AOp) (lo hi : Nat) (l : List AOper) (tm : Tm) (h : Hp) :
    runOps (⟨d, op, none, lo, hi⟩ :: l) rec tm h = thenO (oev op rec tm h) fun v h => runOps l rec (Tm.puts d tm v) h := rfl
@[go_sem] theorem runOps_consG (d : Option Nat) (op : AOp) (g : Nat × Bool) (lo hi : Nat) (l : List AOper) (tm : Tm) (h : Hp) :
    runOps (⟨d, op, some g, lo, hi⟩ :: l) rec tm h = thenO (ifWanted (wantV g.2 (tm.get g.1)) (oev op rec tm h) h) fun v h => runOps l rec (Tm.puts d tm v) h := rfl
@[go_sem] theorem thenO_some {α : Type} (v : V) (h : Hp) (k : V → Hp → Option α) : thenO (some (v, h)) k = k v h := rfl
@[go_sem] theorem ifWanted_t (r : Option (V × Hp)) (h : Hp) : ifWanted (some true) r h = r := rfl
@[go_sem] theorem ifWanted_f (r : Option (V × Hp)) (h : Hp) : ifWanted (some false) r h = some (.tu [], h) := rfl
@[go_sem] theorem wantV_b (want x : Bool) : wantV want (some (.b x)) = some (bif want then x else !x) := rfl
@[go_sem] theorem wantV_tu (want : Bool) : wantV want (some (.tu [])) = some false := rfl
@[go_sem] theorem puts_some (d : Nat) (tm : Tm) (v : V) : Tm.puts (some d) tm v = tm.set d (some v) := rfl
@[go_sem] theorem puts_none (tm : Tm) (v : V) : Tm.puts none tm v = tm := rfl
@[go_sem] theorem retQ_some (v : V) (h : Hp) : retQ (some v) h = some (v, h) := rfl
@[go_sem] theorem retA_some (o : O) (mk : Nat → V) (h : Hp) : retA (some (o, mk)) h = some (mk h.nx, h.add o) := rfl
@[go_sem] theorem ev_t (n : Nat) (tm : Tm) : AO.ev (.t n) tm = tm.get n := rfl
@[go_sem] theorem ev_c (v : V) (tm : Tm) : AO.ev (.c v) tm = some v := rfl
@[go_sem] theorem ev_g (n : Nat) (tm : Tm) : AO.ev (.g n) tm = some (.p n 0) := rfl
@[go_sem] theorem ev_f (n : Nat) (tm : Tm) : AO.ev (.f n) tm = some (.fn n [] []) := rfl
@[go_sem] theorem evs_nil (tm : Tm) : evs [] tm = some [] := rfl
@[go_sem] theorem evs_cons (x : AO) (l : List AO) (tm : Tm) : evs (x :: l) tm = consO (x.ev tm) (evs l tm) := rfl
@[go_sem] theorem evParts_nil (tm : Tm) : evParts [] tm = some [] := rfl
@[go_sem] theorem evParts_cons (o s : Nat) (x : AO) (l : List (Nat × Nat × AO)) (tm : Tm) : evParts ((o, s, x) :: l) tm = consO (partO o s (x.ev tm)) (evParts l tm) := rfl
@[go_sem] theorem partO_some (o s : Nat) (v : V) : partO o s (some v) = some (o, s, v) := rfl
attribute [go_sem] get_set_same get_e

@[go_sem] theorem oev_mov (x : AO) : oev (.mov x) rec tm h = retQ (x.ev tm) h := rfl
@[go_sem] theorem oev_pick (c a b : AO) : oev (.pick c a b) rec tm h = retQ (pickV (c.ev tm) (a.ev tm) (b.ev tm)) h := rfl
@[go_sem] theorem oev_build (zs : List V) (ps : List (Nat × Nat × AO)) : oev (.build zs ps) rec tm h = retQ (agO (fillO zs (evParts ps tm))) h := rfl
@[go_sem] theorem oev_ld (n : Option Nat) (a : AO) : oev (.ld n a) rec tm h = retQ (ldV n (a.ev tm) h) h := rfl
@[go_sem] theorem oev_nck (x : AO) : oev (.nck x) rec tm h = retQ (nckV (x.ev tm)) h := rfl
@[go_sem] theorem oev_eq (neg : Bool) (k : EQ) (x y : AO) : oev (.eq neg k x y) rec tm h = retQ (eqVO neg k (x.ev tm) (y.ev tm)) h := rfl
@[go_sem] theorem oev_bin (op : BinOp) (x y : AO) : oev (.bin op x y) rec tm h = retQ (binV op (x.ev tm) (y.ev tm)) h := rfl
@[go_sem] theorem oev_un (op : UnOp) (x : AO) : oev (.un op x) rec tm h = retQ (unV op (x.ev tm)) h := rfl
@[go_sem] theorem oev_cvi (k : IntKind) (x : AO) : oev (.cv (.int k) x) rec tm h = retQ (cvV (.int k) (x.ev tm) h) h := rfl
@[go_sem] theorem oev_cvs (x : AO) : oev (.cv .same x) rec tm h = retQ (cvV .same (x.ev tm) h) h := rfl
@[go_sem] theorem oev_cvb (x : AO) : oev (.cv .b2s x) rec tm h = retQ (cvV .b2s (x.ev tm) h) h := rfl
@[go_sem] theorem oev_cvu (x : AO) : oev (.cv .toU x) rec tm h = retQ (cvV .toU (x.ev tm) h) h := rfl
@[go_sem] theorem oev_cvo (ty sz : Nat) (x : AO) : oev (.cv (.ofU ty sz) x) rec tm h = retQ (cvV (.ofU ty sz) (x.ev tm) h) h := rfl
@[go_sem] theorem oev_s2b (ty : Nat) (x : AO) : oev (.cv (.s2b ty) x) rec tm h = s2bV ty (x.ev tm) h := rfl
@[go_sem] theorem oev_mkf (f : Nat) (a b : List AO) : oev (.mkf f a b) rec tm h = retQ (mkfV f (evs a tm) (evs b tm)) h := rfl
@[go_sem] theorem oev_slc (k : SK) (x : AO) (lo hi mx : Option AO) : oev (.slc k x lo hi mx) rec tm h = retQ (slcVO k (x.ev tm) (evO lo tm) (evO hi tm) (evO mx tm) h) h := rfl
@[go_sem] theorem oev_fa (off : Nat) (x : AO) : oev (.fa off x) rec tm h = retQ (faV off (x.ev tm)) h := rfl
@[go_sem] theorem oev_fd (off : Nat) (n : Option Nat) (x : AO) : oev (.fd off n x) rec tm h = retQ (fdV off n (x.ev tm)) h := rfl
@[go_sem] theorem oev_ia (k : SK) (x i : AO) : oev (.ia k x i) rec tm h = retQ (iaV k (x.ev tm) (i.ev tm)) h := rfl
@[go_sem] theorem oev_ixs (x i : AO) : oev (.ixs x i) rec tm h = retQ (ixsV (x.ev tm) (i.ev tm)) h := rfl
@[go_sem] theorem oev_ixa (len esz : Nat) (n : Option Nat) (x i : AO) : oev (.ixa len esz n x i) rec tm h = retQ (ixaV len esz n (x.ev tm) (i.ev tm)) h := rfl
@[go_sem] theorem oev_ex (x : AO) (n : Nat) : oev (.ex x n) rec tm h = retQ (exV n (x.ev tm)) h := rfl
@[go_sem] theorem oev_len (s : Bool) (x : AO) : oev (.len s x) rec tm h = retQ (lenV s (x.ev tm)) h := rfl
@[go_sem] theorem oev_mm (big : Bool) (xs : List AO) : oev (.mm big xs) rec tm h = retQ (mmO big (evs xs tm)) h := rfl
@[go_sem] theorem oev_usd (x : AO) : oev (.usd x) rec tm h = retQ (usdV (x.ev tm) h) h := rfl
@[go_sem] theorem oev_alloc (ty : Nat) (zs : List V) : oev (.alloc ty zs) rec tm h = some (.p h.nx 0, h.add (.c zs ty none false false 0)) := rfl
@[go_sem] theorem oev_box (ty n : Nat) (x : AO) : oev (.box ty n x) rec tm h = retA (boxV ty n (x.ev tm)) h := rfl
@[go_sem] theorem oev_bsl (ty esz len : Nat) (zs : List V) (ps : List (Nat × Nat × AO)) : oev (.bsl ty esz len zs ps) rec tm h = retA (bslV ty len (fillO zs (evParts ps tm))) h := rfl
@[go_sem] theorem oev_mks (ty esz bytes : Nat) (z : List V) (l c : AO) : oev (.mks ty esz bytes z l c) rec tm h = retA (mksV ty bytes z (l.ev tm) (c.ev tm)) h := rfl
@[go_sem] theorem oev_st (n : Nat) (a x : AO) : oev (.st n a x) rec tm h = stV n (a.ev tm) (x.ev tm) h := rfl
@[go_sem] theorem oev_call (f : Nat) (args : List AO) : oev (.call f args) rec tm h = callF f (evs args tm) rec h := rfl
@[go_sem] theorem oev_cav (x : AO) (args : List AO) : oev (.cav x args) rec tm h = callV (x.ev tm) (evs args tm) rec h := rfl
@[go_sem] theorem oev_app (ty esz bytes : Nat) (x y : AO) : oev (.app ty esz bytes x y) rec tm h = appO ty esz bytes (x.ev tm) (y.ev tm) h := rfl
@[go_sem] theorem oev_cpy (esz : Nat) (x y : AO) : oev (.cpy esz x y) rec tm h = cpyV esz (x.ev tm) (y.ev tm) h := rfl
@[go_sem] theorem oev_ust (ty : Nat) (x n : AO) : oev (.ust ty x n) rec tm h = ustV ty (x.ev tm) (n.ev tm) h := rfl
@[go_sem] theorem oev_clr (esz : Nat) (z : List V) (x : AO) : oev (.clr esz z x) rec tm h = clrV z (x.ev tm) h := rfl
@[go_sem] theorem callF_some (f : Nat) (vs : List V) : callF f (some vs) rec h = resO (rec (.call f vs h)) := rfl
@[go_sem] theorem callV_fn (f : Nat) (first caps args : List V) : callV (some (.fn f first caps)) (some args) rec h = resO (rec (.call f (first ++ args ++ caps) h)) := rfl
@[go_sem] theorem callV_fy (l : Nat) (args : List V) : callV (some (.fy l)) (some args) rec h = resO (rec (.yield l args h)) := rfl
@[go_sem] theorem resO_val (v : V) (h : Hp) : resO (some (.val v h)) = some (v, h) := rfl

/-! ### Open regions -/
@[go_sem] theorem runOpsD_nil (base : Nat) (tm : Tm) (h : Hp) (n : Nat) (hs : List Hp) (rs : List Rec) : runOpsD [] base rec tm h n hs rs = bif checkRecs n hs rs then some (tm, h) else none := rfl
theorem runOpsD_cons (o : AOper) (l : List AOper) (base : Nat) (tm : Tm) (h : Hp) (n : Nat) (hs : List Hp) (rs : List Rec) :
    runOpsD (o :: l) base rec tm h n hs rs = thenO (gevD o base rec tm h) fun v h' => goD o (runOpsD l) base rec tm n hs rs v h' := rfl

mutual
theorem beq_self_V : ∀ v : V, V.beq v v = true
  | .b x => by simp [V.beq]
  | .i k n => by simp [V.beq]
  | .s l => by simp [V.beq]
  | .pn => rfl
  | .p a o => by simp [V.beq]
  | .sn => rfl
  | .sl a o l c => by simp [V.beq]
  | .fn f a c => by simp [V.beq, beqs_self_V a, beqs_self_V c]
  | .fy a => by simp [V.beq]
  | .fnil => rfl
  | .inil => rfl
  | .ag l => by simp [V.beq, beqs_self_V l]
  | .tu l => by simp [V.beq, beqs_self_V l]
theorem beqs_self_V : ∀ l : List V, V.beqs l l = true
  | [] => rfl
  | v :: l => by simp [V.beqs, beq_self_V v, beqs_self_V l]
end
@[go_sem] theorem isV_self (v : V) : isV v (some v) = true := beq_self_V v

section open_
variable {base n : Nat} {hs : List Hp} {rs : List Rec} {l : List AOper} {d : Option Nat} {op : AOp} {lo hi : Nat} {g : Nat × Bool}
attribute [go_sem] kindOf heapy
theorem runOpsD_q (hk : kindOf op = 0) (hh : heapy op = false) :
    runOpsD (⟨d, op, none, lo, hi⟩ :: l) base rec tm h n hs rs = thenO (oev op rec tm h) fun v h' => runOpsD l base rec (Tm.puts d tm v) h' n hs rs := by
  rw [runOpsD_cons]
  unfold gevD goD recsOf
  simp only [hk, hh, cond_false, gev]
theorem runOpsD_qG (hk : kindOf op = 0) (hh : heapy op = false) :
    runOpsD (⟨d, op, some g, lo, hi⟩ :: l) base rec tm h n hs rs = thenO (ifWanted (wantV g.2 (tm.get g.1)) (oev op rec tm h) h) fun v h' => runOpsD l base rec (Tm.puts d tm v) h' n hs rs := by
  rw [runOpsD_cons]
  unfold gevD goD recsOf
  simp only [hk, hh, cond_false, gev]
  rfl
theorem runOpsD_r (hk : kindOf op = 0) (hh : heapy op = true) :
    runOpsD (⟨d, op, none, lo, hi⟩ :: l) base rec tm h n hs rs = thenO (oev op rec tm h) fun v h' => runOpsD l base rec (Tm.puts d tm v) h' n hs (⟨⟨d, op, none, lo, hi⟩, tm, v⟩ :: rs) := by
  rw [runOpsD_cons]
  unfold gevD goD recsOf
  simp only [hk, hh, cond_true, gev]
  rfl
theorem runOpsD_rG (hk : kindOf op = 0) (hh : heapy op = true) :
    runOpsD (⟨d, op, some g, lo, hi⟩ :: l) base rec tm h n hs rs = thenO (ifWanted (wantV g.2 (tm.get g.1)) (oev op rec tm h) h) fun v h' => runOpsD l base rec (Tm.puts d tm v) h' n hs (addRec ⟨d, op, some g, lo, hi⟩ tm v rs (wantV g.2 (tm.get g.1))) := by
  rw [runOpsD_cons]
  unfold gevD goD recsOf
  simp only [hk, hh, cond_true, gev]
  rfl
theorem runOpsD_e (hk : kindOf op = 2) :
    runOpsD (⟨d, op, none, lo, hi⟩ :: l) base rec tm h n hs rs = thenO (oev op rec tm h) fun v h' => runOpsD l base rec (Tm.puts d tm v) h' (n + 1) (h' :: hs) rs := by
  rw [runOpsD_cons]
  unfold gevD goD
  simp only [hk, gev]
theorem runOpsD_eG (hk : kindOf op = 2) :
    runOpsD (⟨d, op, some g, lo, hi⟩ :: l) base rec tm h n hs rs = thenO (ifWanted (wantV g.2 (tm.get g.1)) (oev op rec tm h) h) fun v h' => runOpsD l base rec (Tm.puts d tm v) h' (n + 1) (h' :: hs) rs := by
  rw [runOpsD_cons]
  unfold gevD goD
  simp only [hk, gev]
  rfl
theorem runOpsD_a (hk : kindOf op = 1) :
    runOpsD (⟨d, op, none, lo, hi⟩ :: l) base rec tm h n hs rs = thenO (retAt (base + lo) (aev op tm) h) fun v h' => runOpsD l base rec (Tm.puts d tm v) h' n hs rs := by
  rw [runOpsD_cons]
  unfold gevD goD
  simp only [hk, wanted, ifWanted]
theorem runOpsD_aG (hk : kindOf op = 1) :
    runOpsD (⟨d, op, some g, lo, hi⟩ :: l) base rec tm h n hs rs = thenO (ifWanted (wantV g.2 (tm.get g.1)) (retAt (base + lo) (aev op tm) h) h) fun v h' => runOpsD l base rec (Tm.puts d tm v) h' n hs rs := by
  rw [runOpsD_cons]
  unfold gevD goD
  simp only [hk, wanted]
end open_
section openOps
variable {base n : Nat} {hs : List Hp} {rs : List Rec} {l : List AOper} {d : Option Nat} {lo hi : Nat} {g : Nat × Bool}
@[go_sem] theorem dD_mov (x : AO) : runOpsD (⟨d, .mov x, none, lo, hi⟩ :: l) base rec tm h n hs rs = thenO (oev (.mov x) rec tm h) fun v h' => runOpsD l base rec (Tm.puts d tm v) h' n hs rs := runOpsD_q rfl rfl
@[go_sem] theorem dG_mov (x : AO) : runOpsD (⟨d, .mov x, some g, lo, hi⟩ :: l) base rec tm h n hs rs = thenO (ifWanted (wantV g.2 (tm.get g.1)) (oev (.mov x) rec tm h) h) fun v h' => runOpsD l base rec (Tm.puts d tm v) h' n hs rs := runOpsD_qG rfl rfl
@[go_sem] theorem dD_pick (c a b : AO) : runOpsD (⟨d, .pick c a b, none, lo, hi⟩ :: l) base rec tm h n hs rs = thenO (oev (.pick c a b) rec tm h) fun v h' => runOpsD l base rec (Tm.puts d tm v) h' n hs rs := runOpsD_q rfl rfl
@[go_sem] theorem dG_pick (c a b : AO) : runOpsD (⟨d, .pick c a b, some g, lo, hi⟩ :: l) base rec tm h n hs rs = thenO (ifWanted (wantV g.2 (tm.get g.1)) (oev (.pick c a b) rec tm h) h) fun v h' => runOpsD l base rec (Tm.puts d tm v) h' n hs rs := runOpsD_qG rfl rfl
@[go_sem] theorem dD_build (zs : List V) (ps : List (Nat × Nat × AO)) : runOpsD (⟨d, .build zs ps, none, lo, hi⟩ :: l) base rec tm h n hs rs = thenO (oev (.build zs ps) rec tm h) fun v h' => runOpsD l base rec (Tm.puts d tm v) h' n hs rs := runOpsD_q rfl rfl
@[go_sem] theorem dG_build (zs : List V) (ps : List (Nat × Nat × AO)) : runOpsD (⟨d, .build zs ps, some g, lo, hi⟩ :: l) base rec tm h n hs rs = thenO (ifWanted (wantV g.2 (tm.get g.1)) (oev (.build zs ps) rec tm h) h) fun v h' => runOpsD l base rec (Tm.puts d tm v) h' n hs rs := runOpsD_qG rfl rfl
@[go_sem] theorem dD_ld (k : Option Nat) (a : AO) : runOpsD (⟨d, .ld k a, none, lo, hi⟩ :: l) base rec tm h n hs rs = thenO (oev (.ld k a) rec tm h) fun v h' => runOpsD l base rec (Tm.puts d tm v) h' n hs (⟨⟨d, .ld k a, none, lo, hi⟩, tm, v⟩ :: rs) := runOpsD_r rfl rfl
@[go_sem] theorem dG_ld (k : Option Nat) (a : AO) : runOpsD (⟨d, .ld k a, some g, lo, hi⟩ :: l) base rec tm h n hs rs = thenO (ifWanted (wantV g.2 (tm.get g.1)) (oev (.ld k a) rec tm h) h) fun v h' => runOpsD l base rec (Tm.puts d tm v) h' n hs (addRec ⟨d, .ld k a, some g, lo, hi⟩ tm v rs (wantV g.2 (tm.get g.1))) := runOpsD_rG rfl rfl
@[go_sem] theorem dD_nck (x : AO) : runOpsD (⟨d, .nck x, none, lo, hi⟩ :: l) base rec tm h n hs rs = thenO (oev (.nck x) rec tm h) fun v h' => runOpsD l base rec (Tm.puts d tm v) h' n hs rs := runOpsD_q rfl rfl
@[go_sem] theorem dG_nck (x : AO) : runOpsD (⟨d, .nck x, some g, lo, hi⟩ :: l) base rec tm h n hs rs = thenO (ifWanted (wantV g.2 (tm.get g.1)) (oev (.nck x) rec tm h) h) fun v h' => runOpsD l base rec (Tm.puts d tm v) h' n hs rs := runOpsD_qG rfl rfl
@[go_sem] theorem dD_bin (bo : BinOp) (x y : AO) : runOpsD (⟨d, .bin bo x y, none, lo, hi⟩ :: l) base rec tm h n hs rs = thenO (oev (.bin bo x y) rec tm h) fun v h' => runOpsD l base rec (Tm.puts d tm v) h' n hs rs := runOpsD_q rfl rfl
@[go_sem] theorem dG_bin (bo : BinOp) (x y : AO) : runOpsD (⟨d, .bin bo x y, some g, lo, hi⟩ :: l) base rec tm h n hs rs = thenO (ifWanted (wantV g.2 (tm.get g.1)) (oev (.bin bo x y) rec tm h) h) fun v h' => runOpsD l base rec (Tm.puts d tm v) h' n hs rs := runOpsD_qG rfl rfl
@[go_sem] theorem dD_eq (neg : Bool) (k : EQ) (x y : AO) : runOpsD (⟨d, .eq neg k x y, none, lo, hi⟩ :: l) base rec tm h n hs rs = thenO (oev (.eq neg k x y) rec tm h) fun v h' => runOpsD l base rec (Tm.puts d tm v) h' n hs rs := runOpsD_q rfl rfl
@[go_sem] theorem dG_eq (neg : Bool) (k : EQ) (x y : AO) : runOpsD (⟨d, .eq neg k x y, some g, lo, hi⟩ :: l) base rec tm h n hs rs = thenO (ifWanted (wantV g.2 (tm.get g.1)) (oev (.eq neg k x y) rec tm h) h) fun v h' => runOpsD l base rec (Tm.puts d tm v) h' n hs rs := runOpsD_qG rfl rfl
@[go_sem] theorem dD_un (uo : UnOp) (x : AO) : runOpsD (⟨d, .un uo x, none, lo, hi⟩ :: l) base rec tm h n hs rs = thenO (oev (.un uo x) rec tm h) fun v h' => runOpsD l base rec (Tm.puts d tm v) h' n hs rs := runOpsD_q rfl rfl
@[go_sem] theorem dG_un (uo : UnOp) (x : AO) : runOpsD (⟨d, .un uo x, some g, lo, hi⟩ :: l) base rec tm h n hs rs = thenO (ifWanted (wantV g.2 (tm.get g.1)) (oev (.un uo x) rec tm h) h) fun v h' => runOpsD l base rec (Tm.puts d tm v) h' n hs rs := runOpsD_qG rfl rfl
@[go_sem] theorem dD_cvi (k : IntKind) (x : AO) : runOpsD (⟨d, .cv (.int k) x, none, lo, hi⟩ :: l) base rec tm h n hs rs = thenO (oev (.cv (.int k) x) rec tm h) fun v h' => runOpsD l base rec (Tm.puts d tm v) h' n hs rs := runOpsD_q rfl rfl
@[go_sem] theorem dG_cvi (k : IntKind) (x : AO) : runOpsD (⟨d, .cv (.int k) x, some g, lo, hi⟩ :: l) base rec tm h n hs rs = thenO (ifWanted (wantV g.2 (tm.get g.1)) (oev (.cv (.int k) x) rec tm h) h) fun v h' => runOpsD l base rec (Tm.puts d tm v) h' n hs rs := runOpsD_qG rfl rfl
@[go_sem] theorem dD_cvs (x : AO) : runOpsD (⟨d, .cv .same x, none, lo, hi⟩ :: l) base rec tm h n hs rs = thenO (oev (.cv .same x) rec tm h) fun v h' => runOpsD l base rec (Tm.puts d tm v) h' n hs rs := runOpsD_q rfl rfl
@[go_sem] theorem dG_cvs (x : AO) : runOpsD (⟨d, .cv .same x, some g, lo, hi⟩ :: l) base rec tm h n hs rs = thenO (ifWanted (wantV g.2 (tm.get g.1)) (oev (.cv .same x) rec tm h) h) fun v h' => runOpsD l base rec (Tm.puts d tm v) h' n hs rs := runOpsD_qG rfl rfl
@[go_sem] theorem dD_cvb (x : AO) : runOpsD (⟨d, .cv .b2s x, none, lo, hi⟩ :: l) base rec tm h n hs rs = thenO (oev (.cv .b2s x) rec tm h) fun v h' => runOpsD l base rec (Tm.puts d tm v) h' n hs (⟨⟨d, .cv .b2s x, none, lo, hi⟩, tm, v⟩ :: rs) := runOpsD_r rfl rfl
@[go_sem] theorem dG_cvb (x : AO) : runOpsD (⟨d, .cv .b2s x, some g, lo, hi⟩ :: l) base rec tm h n hs rs = thenO (ifWanted (wantV g.2 (tm.get g.1)) (oev (.cv .b2s x) rec tm h) h) fun v h' => runOpsD l base rec (Tm.puts d tm v) h' n hs (addRec ⟨d, .cv .b2s x, some g, lo, hi⟩ tm v rs (wantV g.2 (tm.get g.1))) := runOpsD_rG rfl rfl
@[go_sem] theorem dD_cvu (x : AO) : runOpsD (⟨d, .cv .toU x, none, lo, hi⟩ :: l) base rec tm h n hs rs = thenO (oev (.cv .toU x) rec tm h) fun v h' => runOpsD l base rec (Tm.puts d tm v) h' n hs (⟨⟨d, .cv .toU x, none, lo, hi⟩, tm, v⟩ :: rs) := runOpsD_r rfl rfl
@[go_sem] theorem dG_cvu (x : AO) : runOpsD (⟨d, .cv .toU x, some g, lo, hi⟩ :: l) base rec tm h n hs rs = thenO (ifWanted (wantV g.2 (tm.get g.1)) (oev (.cv .toU x) rec tm h) h) fun v h' => runOpsD l base rec (Tm.puts d tm v) h' n hs (addRec ⟨d, .cv .toU x, some g, lo, hi⟩ tm v rs (wantV g.2 (tm.get g.1))) := runOpsD_rG rfl rfl
@[go_sem] theorem dD_cvo (ty sz : Nat) (x : AO) : runOpsD (⟨d, .cv (.ofU ty sz) x, none, lo, hi⟩ :: l) base rec tm h n hs rs = thenO (oev (.cv (.ofU ty sz) x) rec tm h) fun v h' => runOpsD l base rec (Tm.puts d tm v) h' n hs (⟨⟨d, .cv (.ofU ty sz) x, none, lo, hi⟩, tm, v⟩ :: rs) := runOpsD_r rfl rfl
@[go_sem] theorem dG_cvo (ty sz : Nat) (x : AO) : runOpsD (⟨d, .cv (.ofU ty sz) x, some g, lo, hi⟩ :: l) base rec tm h n hs rs = thenO (ifWanted (wantV g.2 (tm.get g.1)) (oev (.cv (.ofU ty sz) x) rec tm h) h) fun v h' => runOpsD l base rec (Tm.puts d tm v) h' n hs (addRec ⟨d, .cv (.ofU ty sz) x, some g, lo, hi⟩ tm v rs (wantV g.2 (tm.get g.1))) := runOpsD_rG rfl rfl
@[go_sem] theorem dD_s2b (ty : Nat) (x : AO) : runOpsD (⟨d, .cv (.s2b ty) x, none, lo, hi⟩ :: l) base rec tm h n hs rs = thenO (oev (.cv (.s2b ty) x) rec tm h) fun v h' => runOpsD l base rec (Tm.puts d tm v) h' (n + 1) (h' :: hs) rs := runOpsD_e rfl
@[go_sem] theorem dG_s2b (ty : Nat) (x : AO) : runOpsD (⟨d, .cv (.s2b ty) x, some g, lo, hi⟩ :: l) base rec tm h n hs rs = thenO (ifWanted (wantV g.2 (tm.get g.1)) (oev (.cv (.s2b ty) x) rec tm h) h) fun v h' => runOpsD l base rec (Tm.puts d tm v) h' (n + 1) (h' :: hs) rs := runOpsD_eG rfl
@[go_sem] theorem dD_mkf (f : Nat) (a b : List AO) : runOpsD (⟨d, .mkf f a b, none, lo, hi⟩ :: l) base rec tm h n hs rs = thenO (oev (.mkf f a b) rec tm h) fun v h' => runOpsD l base rec (Tm.puts d tm v) h' n hs rs := runOpsD_q rfl rfl
@[go_sem] theorem dG_mkf (f : Nat) (a b : List AO) : runOpsD (⟨d, .mkf f a b, some g, lo, hi⟩ :: l) base rec tm h n hs rs = thenO (ifWanted (wantV g.2 (tm.get g.1)) (oev (.mkf f a b) rec tm h) h) fun v h' => runOpsD l base rec (Tm.puts d tm v) h' n hs rs := runOpsD_qG rfl rfl
@[go_sem] theorem dD_slc (k : SK) (x : AO) (a b c : Option AO) : runOpsD (⟨d, .slc k x a b c, none, lo, hi⟩ :: l) base rec tm h n hs rs = thenO (oev (.slc k x a b c) rec tm h) fun v h' => runOpsD l base rec (Tm.puts d tm v) h' n hs (⟨⟨d, .slc k x a b c, none, lo, hi⟩, tm, v⟩ :: rs) := runOpsD_r rfl rfl
@[go_sem] theorem dG_slc (k : SK) (x : AO) (a b c : Option AO) : runOpsD (⟨d, .slc k x a b c, some g, lo, hi⟩ :: l) base rec tm h n hs rs = thenO (ifWanted (wantV g.2 (tm.get g.1)) (oev (.slc k x a b c) rec tm h) h) fun v h' => runOpsD l base rec (Tm.puts d tm v) h' n hs (addRec ⟨d, .slc k x a b c, some g, lo, hi⟩ tm v rs (wantV g.2 (tm.get g.1))) := runOpsD_rG rfl rfl
@[go_sem] theorem dD_fa (off : Nat) (x : AO) : runOpsD (⟨d, .fa off x, none, lo, hi⟩ :: l) base rec tm h n hs rs = thenO (oev (.fa off x) rec tm h) fun v h' => runOpsD l base rec (Tm.puts d tm v) h' n hs rs := runOpsD_q rfl rfl
@[go_sem] theorem dG_fa (off : Nat) (x : AO) : runOpsD (⟨d, .fa off x, some g, lo, hi⟩ :: l) base rec tm h n hs rs = thenO (ifWanted (wantV g.2 (tm.get g.1)) (oev (.fa off x) rec tm h) h) fun v h' => runOpsD l base rec (Tm.puts d tm v) h' n hs rs := runOpsD_qG rfl rfl
@[go_sem] theorem dD_fd (off : Nat) (k : Option Nat) (x : AO) : runOpsD (⟨d, .fd off k x, none, lo, hi⟩ :: l) base rec tm h n hs rs = thenO (oev (.fd off k x) rec tm h) fun v h' => runOpsD l base rec (Tm.puts d tm v) h' n hs rs := runOpsD_q rfl rfl
@[go_sem] theorem dG_fd (off : Nat) (k : Option Nat) (x : AO) : runOpsD (⟨d, .fd off k x, some g, lo, hi⟩ :: l) base rec tm h n hs rs = thenO (ifWanted (wantV g.2 (tm.get g.1)) (oev (.fd off k x) rec tm h) h) fun v h' => runOpsD l base rec (Tm.puts d tm v) h' n hs rs := runOpsD_qG rfl rfl
@[go_sem] theorem dD_ia (k : SK) (x i : AO) : runOpsD (⟨d, .ia k x i, none, lo, hi⟩ :: l) base rec tm h n hs rs = thenO (oev (.ia k x i) rec tm h) fun v h' => runOpsD l base rec (Tm.puts d tm v) h' n hs rs := runOpsD_q rfl rfl
@[go_sem] theorem dG_ia (k : SK) (x i : AO) : runOpsD (⟨d, .ia k x i, some g, lo, hi⟩ :: l) base rec tm h n hs rs = thenO (ifWanted (wantV g.2 (tm.get g.1)) (oev (.ia k x i) rec tm h) h) fun v h' => runOpsD l base rec (Tm.puts d tm v) h' n hs rs := runOpsD_qG rfl rfl
@[go_sem] theorem dD_ixs (x i : AO) : runOpsD (⟨d, .ixs x i, none, lo, hi⟩ :: l) base rec tm h n hs rs = thenO (oev (.ixs x i) rec tm h) fun v h' => runOpsD l base rec (Tm.puts d tm v) h' n hs rs := runOpsD_q rfl rfl
@[go_sem] theorem dG_ixs (x i : AO) : runOpsD (⟨d, .ixs x i, some g, lo, hi⟩ :: l) base rec tm h n hs rs = thenO (ifWanted (wantV g.2 (tm.get g.1)) (oev (.ixs x i) rec tm h) h) fun v h' => runOpsD l base rec (Tm.puts d tm v) h' n hs rs := runOpsD_qG rfl rfl
@[go_sem] theorem dD_ixa (len esz : Nat) (k : Option Nat) (x i : AO) : runOpsD (⟨d, .ixa len esz k x i, none, lo, hi⟩ :: l) base rec tm h n hs rs = thenO (oev (.ixa len esz k x i) rec tm h) fun v h' => runOpsD l base rec (Tm.puts d tm v) h' n hs rs := runOpsD_q rfl rfl
@[go_sem] theorem dG_ixa (len esz : Nat) (k : Option Nat) (x i : AO) : runOpsD (⟨d, .ixa len esz k x i, some g, lo, hi⟩ :: l) base rec tm h n hs rs = thenO (ifWanted (wantV g.2 (tm.get g.1)) (oev (.ixa len esz k x i) rec tm h) h) fun v h' => runOpsD l base rec (Tm.puts d tm v) h' n hs rs := runOpsD_qG rfl rfl
@[go_sem] theorem dD_ex (x : AO) (k : Nat) : runOpsD (⟨d, .ex x k, none, lo, hi⟩ :: l) base rec tm h n hs rs = thenO (oev (.ex x k) rec tm h) fun v h' => runOpsD l base rec (Tm.puts d tm v) h' n hs rs := runOpsD_q rfl rfl
@[go_sem] theorem dG_ex (x : AO) (k : Nat) : runOpsD (⟨d, .ex x k, some g, lo, hi⟩ :: l) base rec tm h n hs rs = thenO (ifWanted (wantV g.2 (tm.get g.1)) (oev (.ex x k) rec tm h) h) fun v h' => runOpsD l base rec (Tm.puts d tm v) h' n hs rs := runOpsD_qG rfl rfl
@[go_sem] theorem dD_len (b : Bool) (x : AO) : runOpsD (⟨d, .len b x, none, lo, hi⟩ :: l) base rec tm h n hs rs = thenO (oev (.len b x) rec tm h) fun v h' => runOpsD l base rec (Tm.puts d tm v) h' n hs rs := runOpsD_q rfl rfl
@[go_sem] theorem dG_len (b : Bool) (x : AO) : runOpsD (⟨d, .len b x, some g, lo, hi⟩ :: l) base rec tm h n hs rs = thenO (ifWanted (wantV g.2 (tm.get g.1)) (oev (.len b x) rec tm h) h) fun v h' => runOpsD l base rec (Tm.puts d tm v) h' n hs rs := runOpsD_qG rfl rfl
@[go_sem] theorem dD_mm (b : Bool) (xs : List AO) : runOpsD (⟨d, .mm b xs, none, lo, hi⟩ :: l) base rec tm h n hs rs = thenO (oev (.mm b xs) rec tm h) fun v h' => runOpsD l base rec (Tm.puts d tm v) h' n hs rs := runOpsD_q rfl rfl
@[go_sem] theorem dG_mm (b : Bool) (xs : List AO) : runOpsD (⟨d, .mm b xs, some g, lo, hi⟩ :: l) base rec tm h n hs rs = thenO (ifWanted (wantV g.2 (tm.get g.1)) (oev (.mm b xs) rec tm h) h) fun v h' => runOpsD l base rec (Tm.puts d tm v) h' n hs rs := runOpsD_qG rfl rfl
@[go_sem] theorem dD_usd (x : AO) : runOpsD (⟨d, .usd x, none, lo, hi⟩ :: l) base rec tm h n hs rs = thenO (oev (.usd x) rec tm h) fun v h' => runOpsD l base rec (Tm.puts d tm v) h' n hs (⟨⟨d, .usd x, none, lo, hi⟩, tm, v⟩ :: rs) := runOpsD_r rfl rfl
@[go_sem] theorem dG_usd (x : AO) : runOpsD (⟨d, .usd x, some g, lo, hi⟩ :: l) base rec tm h n hs rs = thenO (ifWanted (wantV g.2 (tm.get g.1)) (oev (.usd x) rec tm h) h) fun v h' => runOpsD l base rec (Tm.puts d tm v) h' n hs (addRec ⟨d, .usd x, some g, lo, hi⟩ tm v rs (wantV g.2 (tm.get g.1))) := runOpsD_rG rfl rfl
@[go_sem] theorem dD_alloc (ty : Nat) (zs : List V) : runOpsD (⟨d, .alloc ty zs, none, lo, hi⟩ :: l) base rec tm h n hs rs = thenO (retAt (base + lo) (aev (.alloc ty zs) tm) h) fun v h' => runOpsD l base rec (Tm.puts d tm v) h' n hs rs := runOpsD_a rfl
@[go_sem] theorem dG_alloc (ty : Nat) (zs : List V) : runOpsD (⟨d, .alloc ty zs, some g, lo, hi⟩ :: l) base rec tm h n hs rs = thenO (ifWanted (wantV g.2 (tm.get g.1)) (retAt (base + lo) (aev (.alloc ty zs) tm) h) h) fun v h' => runOpsD l base rec (Tm.puts d tm v) h' n hs rs := runOpsD_aG rfl
@[go_sem] theorem dD_box (ty k : Nat) (x : AO) : runOpsD (⟨d, .box ty k x, none, lo, hi⟩ :: l) base rec tm h n hs rs = thenO (retAt (base + lo) (aev (.box ty k x) tm) h) fun v h' => runOpsD l base rec (Tm.puts d tm v) h' n hs rs := runOpsD_a rfl
@[go_sem] theorem dG_box (ty k : Nat) (x : AO) : runOpsD (⟨d, .box ty k x, some g, lo, hi⟩ :: l) base rec tm h n hs rs = thenO (ifWanted (wantV g.2 (tm.get g.1)) (retAt (base + lo) (aev (.box ty k x) tm) h) h) fun v h' => runOpsD l base rec (Tm.puts d tm v) h' n hs rs := runOpsD_aG rfl
@[go_sem] theorem dD_bsl (ty esz len : Nat) (zs : List V) (ps : List (Nat × Nat × AO)) : runOpsD (⟨d, .bsl ty esz len zs ps, none, lo, hi⟩ :: l) base rec tm h n hs rs = thenO (retAt (base + lo) (aev (.bsl ty esz len zs ps) tm) h) fun v h' => runOpsD l base rec (Tm.puts d tm v) h' n hs rs := runOpsD_a rfl
@[go_sem] theorem dG_bsl (ty esz len : Nat) (zs : List V) (ps : List (Nat × Nat × AO)) : runOpsD (⟨d, .bsl ty esz len zs ps, some g, lo, hi⟩ :: l) base rec tm h n hs rs = thenO (ifWanted (wantV g.2 (tm.get g.1)) (retAt (base + lo) (aev (.bsl ty esz len zs ps) tm) h) h) fun v h' => runOpsD l base rec (Tm.puts d tm v) h' n hs rs := runOpsD_aG rfl
@[go_sem] theorem dD_mks (ty esz bytes : Nat) (z : List V) (a c : AO) : runOpsD (⟨d, .mks ty esz bytes z a c, none, lo, hi⟩ :: l) base rec tm h n hs rs = thenO (retAt (base + lo) (aev (.mks ty esz bytes z a c) tm) h) fun v h' => runOpsD l base rec (Tm.puts d tm v) h' n hs rs := runOpsD_a rfl
@[go_sem] theorem dG_mks (ty esz bytes : Nat) (z : List V) (a c : AO) : runOpsD (⟨d, .mks ty esz bytes z a c, some g, lo, hi⟩ :: l) base rec tm h n hs rs = thenO (ifWanted (wantV g.2 (tm.get g.1)) (retAt (base + lo) (aev (.mks ty esz bytes z a c) tm) h) h) fun v h' => runOpsD l base rec (Tm.puts d tm v) h' n hs rs := runOpsD_aG rfl
@[go_sem] theorem dD_st (k : Nat) (a x : AO) : runOpsD (⟨d, .st k a x, none, lo, hi⟩ :: l) base rec tm h n hs rs = thenO (oev (.st k a x) rec tm h) fun v h' => runOpsD l base rec (Tm.puts d tm v) h' (n + 1) (h' :: hs) rs := runOpsD_e rfl
@[go_sem] theorem dG_st (k : Nat) (a x : AO) : runOpsD (⟨d, .st k a x, some g, lo, hi⟩ :: l) base rec tm h n hs rs = thenO (ifWanted (wantV g.2 (tm.get g.1)) (oev (.st k a x) rec tm h) h) fun v h' => runOpsD l base rec (Tm.puts d tm v) h' (n + 1) (h' :: hs) rs := runOpsD_eG rfl
@[go_sem] theorem dD_call (f : Nat) (args : List AO) : runOpsD (⟨d, .call f args, none, lo, hi⟩ :: l) base rec tm h n hs rs = thenO (oev (.call f args) rec tm h) fun v h' => runOpsD l base rec (Tm.puts d tm v) h' (n + 1) (h' :: hs) rs := runOpsD_e rfl
@[go_sem] theorem dG_call (f : Nat) (args : List AO) : runOpsD (⟨d, .call f args, some g, lo, hi⟩ :: l) base rec tm h n hs rs = thenO (ifWanted (wantV g.2 (tm.get g.1)) (oev (.call f args) rec tm h) h) fun v h' => runOpsD l base rec (Tm.puts d tm v) h' (n + 1) (h' :: hs) rs := runOpsD_eG rfl
@[go_sem] theorem dD_cav (x : AO) (args : List AO) : runOpsD (⟨d, .cav x args, none, lo, hi⟩ :: l) base rec tm h n hs rs = thenO (oev (.cav x args) rec tm h) fun v h' => runOpsD l base rec (Tm.puts d tm v) h' (n + 1) (h' :: hs) rs := runOpsD_e rfl
@[go_sem] theorem dG_cav (x : AO) (args : List AO) : runOpsD (⟨d, .cav x args, some g, lo, hi⟩ :: l) base rec tm h n hs rs = thenO (ifWanted (wantV g.2 (tm.get g.1)) (oev (.cav x args) rec tm h) h) fun v h' => runOpsD l base rec (Tm.puts d tm v) h' (n + 1) (h' :: hs) rs := runOpsD_eG rfl
@[go_sem] theorem dD_app (ty esz bytes : Nat) (x y : AO) : runOpsD (⟨d, .app ty esz bytes x y, none, lo, hi⟩ :: l) base rec tm h n hs rs = thenO (oev (.app ty esz bytes x y) rec tm h) fun v h' => runOpsD l base rec (Tm.puts d tm v) h' (n + 1) (h' :: hs) rs := runOpsD_e rfl
@[go_sem] theorem dG_app (ty esz bytes : Nat) (x y : AO) : runOpsD (⟨d, .app ty esz bytes x y, some g, lo, hi⟩ :: l) base rec tm h n hs rs = thenO (ifWanted (wantV g.2 (tm.get g.1)) (oev (.app ty esz bytes x y) rec tm h) h) fun v h' => runOpsD l base rec (Tm.puts d tm v) h' (n + 1) (h' :: hs) rs := runOpsD_eG rfl
@[go_sem] theorem dD_cpy (esz : Nat) (x y : AO) : runOpsD (⟨d, .cpy esz x y, none, lo, hi⟩ :: l) base rec tm h n hs rs = thenO (oev (.cpy esz x y) rec tm h) fun v h' => runOpsD l base rec (Tm.puts d tm v) h' (n + 1) (h' :: hs) rs := runOpsD_e rfl
@[go_sem] theorem dG_cpy (esz : Nat) (x y : AO) : runOpsD (⟨d, .cpy esz x y, some g, lo, hi⟩ :: l) base rec tm h n hs rs = thenO (ifWanted (wantV g.2 (tm.get g.1)) (oev (.cpy esz x y) rec tm h) h) fun v h' => runOpsD l base rec (Tm.puts d tm v) h' (n + 1) (h' :: hs) rs := runOpsD_eG rfl
@[go_sem] theorem dD_ust (ty : Nat) (x y : AO) : runOpsD (⟨d, .ust ty x y, none, lo, hi⟩ :: l) base rec tm h n hs rs = thenO (oev (.ust ty x y) rec tm h) fun v h' => runOpsD l base rec (Tm.puts d tm v) h' (n + 1) (h' :: hs) rs := runOpsD_e rfl
@[go_sem] theorem dG_ust (ty : Nat) (x y : AO) : runOpsD (⟨d, .ust ty x y, some g, lo, hi⟩ :: l) base rec tm h n hs rs = thenO (ifWanted (wantV g.2 (tm.get g.1)) (oev (.ust ty x y) rec tm h) h) fun v h' => runOpsD l base rec (Tm.puts d tm v) h' (n + 1) (h' :: hs) rs := runOpsD_eG rfl
@[go_sem] theorem dD_clr (esz : Nat) (z : List V) (x : AO) : runOpsD (⟨d, .clr esz z x, none, lo, hi⟩ :: l) base rec tm h n hs rs = thenO (oev (.clr esz z x) rec tm h) fun v h' => runOpsD l base rec (Tm.puts d tm v) h' (n + 1) (h' :: hs) rs := runOpsD_e rfl
@[go_sem] theorem dG_clr (esz : Nat) (z : List V) (x : AO) : runOpsD (⟨d, .clr esz z x, some g, lo, hi⟩ :: l) base rec tm h n hs rs = thenO (ifWanted (wantV g.2 (tm.get g.1)) (oev (.clr esz z x) rec tm h) h) fun v h' => runOpsD l base rec (Tm.puts d tm v) h' (n + 1) (h' :: hs) rs := runOpsD_eG rfl
end openOps
@[go_sem] theorem retAt_some (id : Nat) (o : O) (mk : Nat → V) (h : Hp) : retAt id (some (o, mk)) h = some (mk id, h.set id o) := rfl
@[go_sem] theorem aev_alloc (ty : Nat) (zs : List V) (tm : Tm) : aev (.alloc ty zs) tm = some (.c zs ty none false false 0, fun id => .p id 0) := rfl
@[go_sem] theorem aev_box (ty n : Nat) (x : AO) (tm : Tm) : aev (.box ty n x) tm = boxV ty n (x.ev tm) := rfl
@[go_sem] theorem aev_bsl (ty esz len : Nat) (zs : List V) (ps : List (Nat × Nat × AO)) (tm : Tm) : aev (.bsl ty esz len zs ps) tm = bslV ty len (fillO zs (evParts ps tm)) := rfl
@[go_sem] theorem aev_mks (ty esz bytes : Nat) (z : List V) (l c : AO) (tm : Tm) : aev (.mks ty esz bytes z l c) tm = mksV ty bytes z (l.ev tm) (c.ev tm) := rfl
@[go_sem] theorem addRec_t (o : AOper) (tm : Tm) (v : V) (rs : List Rec) : addRec o tm v rs (some true) = ⟨o, tm, v⟩ :: rs := rfl
@[go_sem] theorem addRec_f (o : AOper) (tm : Tm) (v : V) (rs : List Rec) : addRec o tm v rs (some false) = rs := rfl
@[go_sem] theorem checkRecs_nil (n : Nat) (hs : List Hp) : checkRecs n hs [] = true := rfl
@[go_sem] theorem checkRecs_cons (n : Nat) (hs : List Hp) (r : Rec) (l : List Rec) : checkRecs n hs (r :: l) = bif same r.o r.tm r.v n hs then checkRecs n hs l else false := rfl
@[go_sem] theorem same_nil (o : AOper) (tm : Tm) (v : V) (j : Nat) : same o tm v j [] = true := rfl
@[go_sem] theorem same_cons (o : AOper) (tm : Tm) (v : V) (j : Nat) (h : Hp) (l : List Hp) : same o tm v j (h :: l) = ((bif Nat.ble o.lo j && Nat.ble j o.hi then isV v (qev o.op tm h) else true) && same o tm v (j - 1) l) := rfl
@[go_sem] theorem qev_ld (n : Option Nat) (a : AO) (tm : Tm) (h : Hp) : qev (.ld n a) tm h = ldV n (a.ev tm) h := rfl
@[go_sem] theorem qev_slc (k : SK) (x : AO) (lo hi mx : Option AO) (tm : Tm) (h : Hp) : qev (.slc k x lo hi mx) tm h = slcVO k (x.ev tm) (evO lo tm) (evO hi tm) (evO mx tm) h := rfl
@[go_sem] theorem qev_cv (k : CK) (x : AO) (tm : Tm) (h : Hp) : qev (.cv k x) tm h = cvV k (x.ev tm) h := rfl
@[go_sem] theorem qev_usd (x : AO) (tm : Tm) (h : Hp) : qev (.usd x) tm h = usdV (x.ev tm) h := rfl

/-! ### Heaps -/
@[go_sem] theorem bump_zero (h : Hp) : h.bump 0 = h := rfl
@[go_sem] theorem bump_get (h : Hp) (n j : Nat) : (h.bump n).get j = h.get j := rfl
@[go_sem] theorem bump_nx (h : Hp) (n : Nat) : (h.bump n).nx = h.nx + n := rfl
@[go_sem] theorem set_nx (h : Hp) (j : Nat) (o : O) : (h.set j o).nx = h.nx := rfl
@[go_sem] theorem add_nx (h : Hp) (o : O) : (h.add o).nx = h.nx + 1 := rfl
@[go_sem] theorem kill_nx (h : Hp) (j : Nat) : (h.kill j).nx = h.nx := rfl
@[go_sem] theorem hset_same (h : Hp) (j : Nat) (o : O) : (h.set j o).get j = some o := get_set_same _ _ _
theorem hset_ne (h : Hp) {i j : Nat} (o : O) (hi : i ≠ j) : (h.set j o).get i = h.get i := get_set_ne _ _ hi
@[go_sem] theorem hadd_same (h : Hp) (o : O) : (h.add o).get h.nx = some o := get_set_same _ _ _
theorem hadd_ne (h : Hp) {i : Nat} (o : O) (hi : i ≠ h.nx) : (h.add o).get i = h.get i := get_set_ne _ _ hi
@[go_sem] theorem hkill_same (h : Hp) (j : Nat) : (h.kill j).get j = none := get_set_same _ _ _
theorem hkill_ne (h : Hp) {i j : Nat} (hi : i ≠ j) : (h.kill j).get i = h.get i := get_set_ne _ _ hi

/-! ### Numbers -/
@[go_sem] theorem ofNat_cast (n : Nat) : Int.ofNat n = (n : Int) := rfl
@[go_sem] theorem negSucc_cast (n : Nat) : Int.negSucc n = -((n + 1 : Nat) : Int) := rfl
@[go_sem] theorem addI_nat (a b : Nat) : addI (a : Int) (b : Int) = ((a + b : Nat) : Int) := rfl
@[go_sem low] theorem addI_int (a b : Int) : addI a b = a + b := by
  cases a <;> cases b <;> rfl
theorem subI_nat {a b : Nat} (h : b ≤ a) : Int.sub (a : Int) (b : Int) = ((a - b : Nat) : Int) := by
  show (a : Int) - b = _; omega
@[go_sem low] theorem subI_int (a b : Int) : Int.sub a b = a - b := rfl
@[go_sem] theorem mulI_nat (a b : Nat) : mulI (a : Int) (b : Int) = ((a * b : Nat) : Int) := rfl
@[go_sem low] theorem mulI_int (a b : Int) : mulI a b = a * b := by
  cases a <;> cases b <;> rfl
@[go_sem] theorem quoI_nat (a b : Nat) : quoI (a : Int) (b : Int) = ((a / b : Nat) : Int) := rfl
@[go_sem low] theorem quoI_int (a b : Int) : quoI a b = a.tdiv b := by
  cases a <;> cases b <;> rfl
@[go_sem] theorem remI_nat (a b : Nat) : remI (a : Int) (b : Int) = ((a % b : Nat) : Int) := rfl
@[go_sem low] theorem remI_int (a b : Int) : remI a b = a.tmod b := by
  cases a <;> cases b <;> rfl
@[go_sem] theorem negI (a : Int) : Int.neg a = -a := rfl
@[go_sem] theorem eqI_nat (a b : Nat) : eqI (a : Int) (b : Int) = decide (a = b) := by
  show Nat.beq a b = _
  rw [Bool.eq_iff_iff]; simp
@[go_sem low] theorem eqI_int (a b : Int) : eqI a b = decide (a = b) := by
  rw [Bool.eq_iff_iff]; cases a <;> cases b <;> simp [eqI] <;> omega
@[go_sem] theorem ltI_nat (a b : Nat) : ltI (a : Int) (b : Int) = decide (a < b) := by
  show Nat.blt a b = _
  rw [Bool.eq_iff_iff]; simp [Nat.blt]; omega
@[go_sem low] theorem ltI_int (a b : Int) : ltI a b = decide (a < b) := by
  rw [Bool.eq_iff_iff]
  cases a <;> cases b <;> simp [ltI, Nat.blt] <;> omega
theorem wrap64_nat {n : Nat} (h : n < 9223372036854775808) : wrapQ .i64 (n : Int) = (n : Int) := by
  show w64 (Int.ofNat n) = _
  simp only [w64]
  have : Nat.blt n 9223372036854775808 = true := by simp [Nat.blt]; omega
  rw [this]; rfl
theorem wrap64_int {n : Int} (h1 : -9223372036854775808 ≤ n) (h2 : n < 9223372036854775808) : wrapQ .i64 n = n := by
  cases n with
  | ofNat n => exact wrap64_nat (by simp at h2; omega)
  | negSucc n =>
    show w64 (Int.negSucc n) = _
    simp only [w64]
    have : Nat.blt n 9223372036854775808 = true := by simp [Nat.blt]; omega
    rw [this]; rfl
theorem wrap8u_nat (n : Nat) : wrapQ .u8 (n : Int) = ((n % 256 : Nat) : Int) := rfl
theorem wrap32u_nat (n : Nat) : wrapQ .u32 (n : Int) = ((n % 4294967296 : Nat) : Int) := rfl
theorem wrap64u_nat (n : Nat) : wrapQ .u64 (n : Int) = ((n % 18446744073709551616 : Nat) : Int) := rfl

theorem wrap8u_lt {n : Nat} (h : n < 256) : wrapQ .u8 (n : Int) = (n : Int) := by rw [wrap8u_nat, Nat.mod_eq_of_lt h]
theorem wrap32u_lt {n : Nat} (h : n < 4294967296) : wrapQ .u32 (n : Int) = (n : Int) := by rw [wrap32u_nat, Nat.mod_eq_of_lt h]
theorem wrap64u_lt {n : Nat} (h : n < 18446744073709551616) : wrapQ .u64 (n : Int) = (n : Int) := by rw [wrap64u_nat, Nat.mod_eq_of_lt h]
@[go_sem] theorem sameK_same (k : IntKind) (r : Option V) : sameK k k r = r := by cases k <;> rfl
section bin
variable (k : IntKind) (a b : Int)
@[go_sem] theorem bin_add : binV .add (some (.i k a)) (some (.i k b)) = some (.i k (wrapQ k (addI a b))) := by cases k <;> rfl
@[go_sem] theorem bin_sub : binV .sub (some (.i k a)) (some (.i k b)) = some (.i k (wrapQ k (Int.sub a b))) := by cases k <;> rfl
@[go_sem] theorem bin_mul : binV .mul (some (.i k a)) (some (.i k b)) = some (.i k (wrapQ k (mulI a b))) := by cases k <;> rfl
@[go_sem] theorem bin_quo : binV .quo (some (.i k a)) (some (.i k b)) = bif eqI b 0 then none else some (.i k (wrapQ k (quoI a b))) := by cases k <;> rfl
@[go_sem] theorem bin_rem : binV .rem (some (.i k a)) (some (.i k b)) = bif eqI b 0 then none else some (.i k (remI a b)) := by cases k <;> rfl
@[go_sem] theorem bin_eql : binV .eql (some (.i k a)) (some (.i k b)) = some (.b (eqI a b)) := by cases k <;> rfl
@[go_sem] theorem bin_neq : binV .neq (some (.i k a)) (some (.i k b)) = some (.b (!eqI a b)) := by cases k <;> rfl
@[go_sem] theorem bin_lss : binV .lss (some (.i k a)) (some (.i k b)) = some (.b (ltI a b)) := by cases k <;> rfl
@[go_sem] theorem bin_leq : binV .leq (some (.i k a)) (some (.i k b)) = some (.b (!ltI b a)) := by cases k <;> rfl
@[go_sem] theorem bin_gtr : binV .gtr (some (.i k a)) (some (.i k b)) = some (.b (ltI b a)) := by cases k <;> rfl
@[go_sem] theorem bin_geq : binV .geq (some (.i k a)) (some (.i k b)) = some (.b (!ltI a b)) := by cases k <;> rfl
end bin
@[go_sem] theorem eqI_zero (b : Nat) : eqI (b : Int) 0 = decide (b = 0) := eqI_nat b 0
@[go_sem] theorem un_neg (k : IntKind) (n : Int) : unV .neg (some (.i k n)) = some (.i k (wrapQ k (Int.neg n))) := rfl
@[go_sem] theorem un_not (x : Bool) : unV .not (some (.b x)) = some (.b (!x)) := rfl
@[go_sem] theorem cv_int (k k' : IntKind) (n : Int) (h : Hp) : cvV (.int k) (some (.i k' n)) h = some (.i k (wrapQ k n)) := rfl
@[go_sem] theorem cv_same (l : List UInt8) (h : Hp) : cvV .same (some (.s l)) h = some (.s l) := rfl

/-! ### Texts -/
@[go_sem] theorem len_s (l : List UInt8) : lenV true (some (.s l)) = some (.i .i64 (l.length : Nat)) := rfl
@[go_sem] theorem len_sl (id off n : Nat) (c : Option Nat) : lenV false (some (.sl id off n c)) = some (.i .i64 (n : Nat)) := rfl
@[go_sem] theorem len_sn : lenV false (some .sn) = some (.i .i64 ((0 : Nat) : Int)) := rfl
theorem ixs_at (l : List UInt8) (k : IntKind) {j : Nat} (h : j < l.length) : ixsV (some (.s l)) (some (.i k (j : Int))) = some (.i .u8 ((l[j].toNat : Nat) : Int)) := by
  show byteO (nth l j) = _
  rw [nth_eq, List.getElem?_eq_getElem h]; rfl
@[go_sem] theorem evO_none (tm : Tm) : evO none tm = some none := rfl
@[go_sem] theorem evO_some (x : AO) (tm : Tm) : evO (some x) tm = (match x.ev tm with
  | some v => some (some v)
  | none => none) := rfl
@[go_sem] theorem slcVO_some (k : SK) (v : V) (lo hi mx : Option V) (h : Hp) : slcVO k (some v) (some lo) (some hi) (some mx) h = slcV k v lo hi mx h := rfl
@[go_sem] theorem natOf_none (d : Nat) : natOf none d = some d := rfl
@[go_sem] theorem natOf_some (k : IntKind) (n d : Nat) : natOf (some (.i k (n : Int))) d = some n := rfl
@[go_sem] theorem slc_str (l : List UInt8) (lo hi : Option V) (h : Hp) : slcV .str (.s l) lo hi none h = slcS l (natOf hi l.length) (natOf lo 0) := rfl
theorem slcS_at (l : List UInt8) {a b : Nat} (h1 : b ≤ l.length) (h2 : a ≤ b) : slcS l (some b) (some a) = some (.s ((l.drop a).take (b - a))) := by
  have e1 : Nat.ble b l.length = true := by simp; omega
  have e2 : Nat.ble a b = true := by simp; omega
  show (bif Nat.ble b l.length && Nat.ble a b then strO (takeN (dropN l a) (b - a)) else none) = _
  rw [e1, e2]
  show strO _ = _
  have : ∀ (m : List UInt8) (n : Nat), n ≤ m.length → takeN m n = some (m.take n) := by
    intro m
    induction m with
    | nil => intro n hn; obtain rfl : n = 0 := by simpa using hn
             rfl
    | cons x m ih =>
      intro n hn
      cases n with
      | zero => rfl
      | succ n => simp only [takeN, ih n (by simpa using hn), List.take_succ_cons]
  rw [dropN_eq, this _ _ (by simp; omega)]; rfl
attribute [go_sem] cond_true cond_false decide_true decide_false Bool.not_true Bool.not_false Bool.and_true Bool.true_and Bool.and_false Bool.false_and Bool.or_true Bool.true_or Bool.or_false Bool.false_or
@[go_sem] theorem nbeq (a b : Nat) : Nat.beq a b = decide (a = b) := by rw [Bool.eq_iff_iff]; simp
@[go_sem] theorem nble (a b : Nat) : Nat.ble a b = decide (a ≤ b) := by rw [Bool.eq_iff_iff]; simp
@[go_sem] theorem nblt (a b : Nat) : Nat.blt a b = decide (a < b) := by rw [Bool.eq_iff_iff]; simp [Nat.blt]; omega
end Sim
end Go.Proofs.YtgnpoaoekhplhaaGreatDoor.AE
set_option linter.unusedVariables false
/- Rules for symbolic runs: what code leaves alone, loops, heaps that only grow. -/
namespace Go.Proofs.YtgnpoaoekhplhaaGreatDoor.AE
open Go
variable {fs : Nat → Option AFn} {tb : Tab}

/-- Code ends, and so. -/
def Yc (r : Option Res) (P : Ex → St → Prop) : Prop := match r with
  | some (.code e st) => P e st
  | _ => False
/-- A call answers, and so. -/
def Yv (r : Option Res) (P : V → Hp → Prop) : Prop := match r with
  | some (.val v h) => P v h
  | _ => False
@[go_sem] theorem Yc_code (e : Ex) (st : St) (P : Ex → St → Prop) : Yc (some (.code e st)) P = P e st := rfl
@[go_sem] theorem Yv_val (v : V) (h : Hp) (P : V → Hp → Prop) : Yv (some (.val v h)) P = P v h := rfl
@[congr] theorem Yc_congr {x y : Option Res} {P : Ex → St → Prop} (h : x = y) : Yc x P = Yc y P := by rw [h]
@[congr] theorem Yv_congr {x y : Option Res} {P : V → Hp → Prop} (h : x = y) : Yv x P = Yv y P := by rw [h]
theorem Yc.elim {r : Option Res} {P : Ex → St → Prop} (h : Yc r P) : ∃ e tm df hp, r = some (.code e ⟨tm, df, hp⟩) ∧ P e ⟨tm, df, hp⟩ := by
  unfold Yc at h
  split at h
  · next e st => exact ⟨e, st.tm, st.df, st.h, rfl, h⟩
  · exact h.elim
theorem Yv.elim {r : Option Res} {P : V → Hp → Prop} (h : Yv r P) : ∃ v hp, r = some (.val v hp) ∧ P v hp := by
  unfold Yv at h
  split at h
  · next v hp => exact ⟨v, hp, rfl, h⟩
  · exact h.elim
theorem Yc.mono {r : Option Res} {P Q : Ex → St → Prop} (h : Yc r P) (hm : ∀ e st, P e st → Q e st) : Yc r Q := by
  obtain ⟨e, tm, df, hp, rfl, h⟩ := h.elim
  exact hm _ _ h
theorem Yv.mono {r : Option Res} {P Q : V → Hp → Prop} (h : Yv r P) (hm : ∀ v hp, P v hp → Q v hp) : Yv r Q := by
  obtain ⟨v, hp, rfl, h⟩ := h.elim
  exact hm _ _ h

/-! ### Conditions ahead -/
def Yo (r : Option (Tm × Hp)) (P : Tm → Hp → Prop) : Prop := match r with
  | some (tm, h) => P tm h
  | none => False
def Yp (r : Option (V × Hp)) (P : V → Hp → Prop) : Prop := match r with
  | some (v, h) => P v h
  | none => False
@[congr] theorem Yo_congr {x y : Option (Tm × Hp)} {P : Tm → Hp → Prop} (h : x = y) : Yo x P = Yo y P := by rw [h]
@[congr] theorem Yp_congr {x y : Option (V × Hp)} {P : V → Hp → Prop} (h : x = y) : Yp x P = Yp y P := by rw [h]
def seqP (e : Ex) (st : St) (K : St → Option Res) (P : Ex → St → Prop) : Prop := match e with
  | .nor => Yc (K st) P
  | e => P e st
def blkP (id : Nat) (e : Ex) (st : St) (P : Ex → St → Prop) : Prop := match e with
  | .exit j => bif Nat.beq j id then P .nor st else P (.exit j) st
  | e => P e st
def endP (res : List RV) (e : Ex) (st : St) (P : V → Hp → Prop) : Prop := match e with
  | .exit _ => False
  | _ => Yv (endO res st.tm (takeDf st.df st.h)) P
@[go_sem] theorem seqP_nor (st : St) (K : St → Option Res) (P : Ex → St → Prop) : seqP .nor st K P = Yc (K st) P := rfl
@[go_sem] theorem seqP_ret (st : St) (K : St → Option Res) (P : Ex → St → Prop) : seqP .ret st K P = P .ret st := rfl
@[go_sem] theorem seqP_exit (j : Nat) (st : St) (K : St → Option Res) (P : Ex → St → Prop) : seqP (.exit j) st K P = P (.exit j) st := rfl
@[go_sem] theorem blkP_nor (id : Nat) (st : St) (P : Ex → St → Prop) : blkP id .nor st P = P .nor st := rfl
@[go_sem] theorem blkP_ret (id : Nat) (st : St) (P : Ex → St → Prop) : blkP id .ret st P = P .ret st := rfl
@[go_sem] theorem blkP_exit (id j : Nat) (st : St) (P : Ex → St → Prop) : blkP id (.exit j) st P = bif Nat.beq j id then P .nor st else P (.exit j) st := rfl
@[go_sem] theorem endP_nor (res : List RV) (tm : Tm) (df : List Nat) (h : Hp) (P : V → Hp → Prop) : endP res .nor ⟨tm, df, h⟩ P = Yv (endO res tm (takeDf df h)) P := rfl
@[go_sem] theorem endP_ret (res : List RV) (tm : Tm) (df : List Nat) (h : Hp) (P : V → Hp → Prop) : endP res .ret ⟨tm, df, h⟩ P = Yv (endO res tm (takeDf df h)) P := rfl
@[go_sem] theorem Yc_seqO (r : Option Res) (K : St → Option Res) (P : Ex → St → Prop) : Yc (seqO r K) P = Yc r (fun e st => seqP e st K P) := by
  rcases r with _ | ⟨_ | _ | _, st⟩ | _ <;> rfl
@[go_sem] theorem Yc_blkO (id : Nat) (r : Option Res) (P : Ex → St → Prop) : Yc (blkO id r) P = Yc r (fun e st => blkP id e st P) := by
  rcases r with _ | ⟨_ | _ | j, st⟩ | _
  · rfl
  · rfl
  · rfl
  · show Yc (bif Nat.beq j id then some (.code .nor st) else some (.code (.exit j) st)) P = bif Nat.beq j id then P .nor st else P (.exit j) st
    cases Nat.beq j id <;> rfl
  · rfl
@[go_sem] theorem Yv_fnEnd (res : List RV) (r : Option Res) (P : V → Hp → Prop) : Yv (fnEnd res r) P = Yc r (fun e st => endP res e st P) := by
  rcases r with _ | ⟨_ | _ | _, st⟩ | _ <;> rfl
@[go_sem] theorem Yc_regO (df : List Nat) (x : Option (Tm × Hp)) (P : Ex → St → Prop) : Yc (regO df x) P = Yo x (fun tm h => P .nor ⟨tm, df, h⟩) := by
  rcases x with _ | ⟨_, _⟩ <;> rfl
@[go_sem] theorem Yo_some (tm : Tm) (h : Hp) (P : Tm → Hp → Prop) : Yo (some (tm, h)) P = P tm h := rfl
@[go_sem] theorem Yo_thenO (x : Option (V × Hp)) (k : V → Hp → Option (Tm × Hp)) (P : Tm → Hp → Prop) : Yo (thenO x k) P = Yp x (fun v h => Yo (k v h) P) := by
  rcases x with _ | ⟨_, _⟩ <;> rfl
@[go_sem] theorem Yp_some (v : V) (h : Hp) (P : V → Hp → Prop) : Yp (some (v, h)) P = P v h := rfl
@[go_sem] theorem Yp_resO (r : Option Res) (P : V → Hp → Prop) : Yp (resO r) P = Yv r P := by
  rcases r with _ | ⟨_, _⟩ | ⟨_, _⟩ <;> rfl
theorem Yc_cond {c : Bool} {a b : Option Res} {P : Ex → St → Prop} (h1 : c = true → Yc a P) (h0 : c = false → Yc b P) : Yc (condO (some (.b c)) a b) P := by
  cases c
  · exact h0 rfl
  · exact h1 rfl
theorem Yp_want {c : Bool} {r : Option (V × Hp)} {h : Hp} {P : V → Hp → Prop} (h1 : c = true → Yp r P) (h0 : c = false → P (.tu []) h) : Yp (ifWanted (some c) r h) P := by
  cases c
  · exact h0 rfl
  · exact h1 rfl
/-- A known answer, as a condition. -/
theorem Yv.of_eq {r : Option Res} {v : V} {h : Hp} {P : V → Hp → Prop} (e : r = some (.val v h)) (hp : P v h) : Yv r P := by rw [e]; exact hp
theorem Yv.eq {r : Option Res} {v : V} {h : Hp} (hy : Yv r fun v' h' => v' = v ∧ h' = h) : r = some (.val v h) := by
  obtain ⟨v', h', e, rfl, rfl⟩ := hy.elim
  exact e

/-! ### What code leaves alone -/
def dstL : Option Nat → List Nat
  | some d => [d]
  | none => []
/-- The temporaries that code may write. -/
def wrs : AC → List Nat
  | .reg ops => ops.flatMap fun o => dstL o.dst
  | .regD _ ops => ops.flatMap fun o => dstL o.dst
  | .seq a b => wrs a ++ wrs b
  | .cond _ a b => wrs a ++ wrs b
  | .blk _ b => wrs b
  | .loop b => wrs b
  | .scp b => wrs b
  | _ => []
/-- No range over a function in the code. -/
def nrf : AC → Bool
  | .seq a b => nrf a && nrf b
  | .cond _ a b => nrf a && nrf b
  | .blk _ b => nrf b
  | .loop b => nrf b
  | .scp b => nrf b
  | .rf .. => false
  | _ => true

/-- Alike but for some temporaries. -/
def AlB (l : List Nat) (tm tm' : Tm) : Prop := ∀ t, l.contains t = false → tm'.get t = tm.get t
theorem AlB.refl (l : List Nat) (tm : Tm) : AlB l tm tm := fun _ _ => rfl
theorem AlB.trans {l : List Nat} {a b c : Tm} (h : AlB l a b) (h' : AlB l b c) : AlB l a c := fun t ht => (h' t ht).trans (h t ht)
theorem AlB.mono {l m : List Nat} {a b : Tm} (h : AlB l a b) (hs : ∀ t ∈ l, t ∈ m) : AlB m a b := fun t ht => h t (by
  cases hc : l.contains t with
  | false => rfl
  | true =>
    have : t ∈ m := hs t (by simpa using hc)
    have : m.contains t = true := by simpa using this
    rw [this] at ht; cases ht)
theorem AlB.puts (d : Option Nat) (tm : Tm) (v : V) : AlB (dstL d) tm (Tm.puts d tm v) := by
  cases d with
  | none => exact AlB.refl _ _
  | some d =>
    intro t ht
    exact get_set_ne _ _ (fun e => by subst e; simp [dstL] at ht)

theorem runOps_AlB {rec : RecT} : ∀ (ops : List AOper) {tm : Tm} {h : Hp} {tm' : Tm} {h' : Hp}, runOps ops rec tm h = some (tm', h') → AlB (ops.flatMap fun o => dstL o.dst) tm tm'
  | [], tm, h, tm', h', e => by
    cases (show some (tm, h) = some (tm', h') from e); exact AlB.refl _ _
  | o :: l, tm, h, tm', h', e => by
    have e' : thenO (gev o rec tm h) (fun v h => runOps l rec (Tm.puts o.dst tm v) h) = some (tm', h') := e
    cases hg : gev o rec tm h with
    | none => rw [hg] at e'; cases e'
    | some p =>
      obtain ⟨v, h1⟩ := p
      rw [hg] at e'
      have e2 : runOps l rec (Tm.puts o.dst tm v) h1 = some (tm', h') := e'
      exact ((AlB.puts o.dst tm v).mono (by intro t ht; simp [ht])).trans ((runOps_AlB l e2).mono (by intro t ht; simp at ht ⊢; exact .inr ht))
theorem goD_eq (o : AOper) (ih : RunD) (base : Nat) (rec : RecT) (tm : Tm) (n : Nat) (hs : List Hp) (rs : List Rec) (v : V) (h : Hp) :
    ∃ n' hs' rs', goD o ih base rec tm n hs rs v h = ih base rec (Tm.puts o.dst tm v) h n' hs' rs' := by
  unfold goD
  rcases kindOf o.op with _ | _ | _
  · exact ⟨_, _, _, rfl⟩
  · exact ⟨_, _, _, rfl⟩
  · exact ⟨_, _, _, rfl⟩
theorem runOpsD_AlB {rec : RecT} : ∀ (ops : List AOper) {base : Nat} {tm : Tm} {h : Hp} {n : Nat} {hs : List Hp} {rs : List Rec} {tm' : Tm} {h' : Hp}, runOpsD ops base rec tm h n hs rs = some (tm', h') →
    AlB (ops.flatMap fun o => dstL o.dst) tm tm'
  | [], base, tm, h, n, hs, rs, tm', h', e => by
    have e' : (bif checkRecs n hs rs then some (tm, h) else none) = some (tm', h') := e
    cases hc : checkRecs n hs rs with
    | false => rw [hc] at e'; cases e'
    | true => rw [hc] at e'; cases e'; exact AlB.refl _ _
  | o :: l, base, tm, h, n, hs, rs, tm', h', e => by
    have e' : thenO (gevD o base rec tm h) (fun v h' => goD o (runOpsD l) base rec tm n hs rs v h') = some (tm', h') := e
    cases hg : gevD o base rec tm h with
    | none => rw [hg] at e'; cases e'
    | some p =>
      obtain ⟨v, h1⟩ := p
      rw [hg] at e'
      have e2 : goD o (runOpsD l) base rec tm n hs rs v h1 = some (tm', h') := e'
      obtain ⟨n', hs', rs', e3⟩ := goD_eq o (runOpsD l) base rec tm n hs rs v h1
      rw [e3] at e2
      exact ((AlB.puts o.dst tm v).mono (by intro t ht; simp [ht])).trans ((runOpsD_AlB l e2).mono (by intro t ht; simp at ht ⊢; exact .inr ht))

/-- What is asked of the answers on loops. -/
def RecFr (rec : RecT) : Prop := ∀ rd b st x st', rec (.loop rd b st) = some (.code x st') → AlB (wrs b) st.tm st'.tm ∧ (nrf b = true → st'.df = st.df)

theorem rfGo_tm {rec : RecT} {ps : List Nat} {a b : AC} {st : St} {x : Option V} {y : Option (Nat × Hp × List Nat)} {e : Ex} {st' : St} (h : rfGo ps a b rec st x y = some (.code e st')) : st'.tm = st.tm := by
  unfold rfGo at h
  split at h
  · next fi first caps d hh df =>
    cases hr : rec (.call fi (first ++ [.fy hh.nx] ++ caps) (hh.add (.l .ready none st.tm ps a b d))) with
    | none => rw [hr] at h; cases h
    | some r =>
      rw [hr] at h
      cases r with
      | code _ _ => cases h
      | val v h1 =>
        have h2 : rfEnd hh.nx st.tm df h1 = some (.code e st') := h
        unfold rfEnd at h2
        split at h2 <;> first | (cases h2; done) | (cases h2; rfl)
  · cases h

theorem cd_frame {rec : RecT} (hr : RecFr rec) : ∀ (c : AC) (rd : Option Nat) (st : St) (x : Ex) (st' : St), cd c rec rd st = some (.code x st') → AlB (wrs c) st.tm st'.tm ∧ (nrf c = true → st'.df = st.df) := by
  intro c
  induction c with
  | skip => intro rd st x st' e; cases (show some (Res.code Ex.nor st) = _ from e); exact ⟨AlB.refl _ _, fun _ => rfl⟩
  | reg ops =>
    intro rd st x st' e
    obtain ⟨tm, h, e1, rfl, rfl⟩ := regO_some (show regO st.df (runOps ops rec st.tm st.h) = _ from e)
    exact ⟨runOps_AlB ops e1, fun _ => rfl⟩
  | regD cnt ops =>
    intro rd st x st' e
    obtain ⟨tm, h, e1, rfl, rfl⟩ := regO_some (show regO st.df (runOpsD ops st.h.nx rec st.tm (st.h.bump cnt) 0 [st.h.bump cnt] []) = _ from e)
    exact ⟨runOpsD_AlB ops e1, fun _ => rfl⟩
  | seq a b iha ihb =>
    intro rd st x st' e
    have e' : seqO (cd a rec rd st) (fun st => cd b rec rd st) = some (.code x st') := e
    unfold seqO at e'
    split at e'
    · next st1 e1 =>
      have h1 := iha rd st .nor st1 e1
      have h2 := ihb rd st1 x st' e'
      refine ⟨(h1.1.mono (fun t ht => by simp [wrs, ht])).trans (h2.1.mono (fun t ht => by simp [wrs, ht])), fun hn => ?_⟩
      simp only [nrf, Bool.and_eq_true] at hn
      exact (h2.2 hn.2).trans (h1.2 hn.1)
    · have h1 := iha rd st x st' e'
      refine ⟨h1.1.mono (fun t ht => by simp [wrs, ht]), fun hn => ?_⟩
      simp only [nrf, Bool.and_eq_true] at hn
      exact h1.2 hn.1
  | cond z a b iha ihb =>
    intro rd st x st' e
    have e' : condO (z.ev st.tm) (cd a rec rd st) (cd b rec rd st) = some (.code x st') := e
    unfold condO at e'
    split at e'
    · have h1 := iha rd st x st' e'
      exact ⟨h1.1.mono (fun t ht => by simp [wrs, ht]), fun hn => h1.2 (by simp only [nrf, Bool.and_eq_true] at hn; exact hn.1)⟩
    · have h1 := ihb rd st x st' e'
      exact ⟨h1.1.mono (fun t ht => by simp [wrs, ht]), fun hn => h1.2 (by simp only [nrf, Bool.and_eq_true] at hn; exact hn.2)⟩
    · cases e'
  | blk id b ih =>
    intro rd st x st' e
    have e' : blkO id (cd b rec rd st) = some (.code x st') := e
    unfold blkO at e'
    split at e'
    · next j st1 e1 =>
      have h1 := ih rd st _ st1 e1
      cases hb : Nat.beq j id with
      | true => rw [hb] at e'; cases e'; exact h1
      | false => rw [hb] at e'; cases e'; exact h1
    · exact ih rd st x st' e'
  | loop b _ => intro rd st x st' e; exact hr rd b st x st' e
  | scp b ih => intro rd st x st' e; exact ih rd st x st' e
  | rf f ps a b _ _ =>
    intro rd st x st' e
    have := rfGo_tm (show rfGo ps a b rec st (f.ev st.tm) (rfDf rd st) = some (.code x st') from e)
    exact ⟨by rw [this]; exact AlB.refl _ _, fun hn => by cases hn⟩
  | exit id => intro rd st x st' e; cases (show some (Res.code (Ex.exit id) st) = _ from e); exact ⟨AlB.refl _ _, fun _ => rfl⟩
  | ret => intro rd st x st' e; cases (show some (Res.code Ex.ret st) = _ from e); exact ⟨AlB.refl _ _, fun _ => rfl⟩
  | bad => intro rd st x st' e; cases (show (none : Option Res) = _ from e)

theorem ev_frame : ∀ n, RecFr (ev fs tb n)
  | 0 => fun rd b st x st' e => by cases e
  | n + 1 => fun rd b st x st' e => by
    have e' : seqO (cd b (ev fs tb n) rd st) (fun st => ev fs tb n (.loop rd b st)) = some (.code x st') := e
    unfold seqO at e'
    split at e'
    · next st1 e1 =>
      have h1 := cd_frame (ev_frame n) b rd st .nor st1 e1
      have h2 := ev_frame n rd b st1 x st' e'
      exact ⟨h1.1.trans h2.1, fun hn => (h2.2 hn).trans (h1.2 hn)⟩
    · exact cd_frame (ev_frame n) b rd st x st' e'
theorem EV_frame : RecFr (EV fs tb) := fun rd b st x st' e =>
  let ⟨n, hn⟩ := EV_some fs tb e
  ev_frame n rd b st x st' hn

/-! ### Loops -/
/-- A loop whose deferred list stays: the state of a round is `x`; what the body does not write is as it was. -/
theorem loop_rule {rd : Option Nat} {b : AC} {α : Type} (Inv : α → Tm → Hp → Prop) (meas : α → Nat) (Post : Ex → Tm → Hp → Prop) {tm0 : Tm} {df : List Nat} (hn : nrf b = true)
    (step : ∀ x tm h, Inv x tm h → AlB (wrs b) tm0 tm → Yc (cd b (EV fs tb) rd ⟨tm, df, h⟩) fun e st => match e with
      | .nor => ∃ y, meas y < meas x ∧ Inv y st.tm st.h
      | e => Post e st.tm st.h) (x : α) (tm : Tm) (h : Hp) (hi : Inv x tm h) (ha : AlB (wrs b) tm0 tm) :
    Yc (EV fs tb (.loop rd b ⟨tm, df, h⟩)) fun e st => st.df = df ∧ AlB (wrs b) tm0 st.tm ∧ Post e st.tm st.h := by
  generalize hm : meas x = m
  induction m using Nat.strongRecOn generalizing x tm h with
  | _ m ih =>
    rw [EV_loop]
    obtain ⟨e, tm1, df1, h1, e1, hp⟩ := (step x tm h hi ha).elim
    have hf := cd_frame (EV_frame (fs := fs) (tb := tb)) b rd ⟨tm, df, h⟩ e ⟨tm1, df1, h1⟩ e1
    have hdf : df1 = df := hf.2 hn
    subst hdf
    rw [e1]
    cases e with
    | nor =>
      obtain ⟨y, hy, hi'⟩ := hp
      exact ih (meas y) (by omega) y tm1 h1 hi' (ha.trans hf.1) rfl
    | ret => exact ⟨rfl, ha.trans hf.1, hp⟩
    | exit id => exact ⟨rfl, ha.trans hf.1, hp⟩

/-! ### Heaps that only grow -/
def Hp.Ok (h : Hp) : Prop := ∀ id, h.nx ≤ id → h.get id = none
structure Gr (h h' : Hp) : Prop where
  ok : h'.Ok
  keep : ∀ id o, h.get id = some o → h'.get id = some o
  nx : h.nx ≤ h'.nx
  old : h.Ok
theorem Gr.refl {h : Hp} (ok : h.Ok) : Gr h h := ⟨ok, fun _ _ e => e, Nat.le_refl _, ok⟩
theorem Gr.trans {a b c : Hp} (x : Gr a b) (y : Gr b c) : Gr a c := ⟨y.ok, fun id o e => y.keep id o (x.keep id o e), Nat.le_trans x.nx y.nx, x.old⟩
theorem Hp.Ok.lt {h : Hp} (ok : h.Ok) {id : Nat} {o : O} (e : h.get id = some o) : id < h.nx := by
  rcases Nat.lt_or_ge id h.nx with h1 | h1
  · exact h1
  · rw [ok id h1] at e; cases e
theorem Hp.Ok.set {h : Hp} (ok : h.Ok) {j : Nat} (hj : j < h.nx) (o : O) : (h.set j o).Ok := fun id hid => by
  have hid : h.nx ≤ id := hid
  rw [Sim.hset_ne h o (by omega)]; exact ok id hid
theorem Hp.Ok.add {h : Hp} (ok : h.Ok) (o : O) : (h.add o).Ok := fun id hid => by
  have hid : h.nx + 1 ≤ id := hid
  rw [Sim.hadd_ne h o (by omega)]; exact ok id (by omega)
theorem Hp.Ok.kill {h : Hp} (ok : h.Ok) (j : Nat) : (h.kill j).Ok := fun id hid => by
  have hid : h.nx ≤ id := hid
  by_cases e : id = j
  · subst e; exact Sim.hkill_same h _
  · rw [Sim.hkill_ne h e]; exact ok id hid
theorem Hp.Ok.bump {h : Hp} (ok : h.Ok) (n : Nat) : (h.bump n).Ok := fun id hid => by
  have hid : h.nx + n ≤ id := hid
  exact ok id (by omega)
theorem Gr.set {a h : Hp} (g : Gr a h) {j : Nat} (h1 : a.nx ≤ j) (h2 : j < h.nx) (o : O) : Gr a (h.set j o) :=
  ⟨g.ok.set h2 o, fun id o' e => by rw [Sim.hset_ne h o (by have := g.old.lt e; omega)]; exact g.keep id o' e, g.nx, g.old⟩
theorem Gr.add {a h : Hp} (g : Gr a h) (o : O) : Gr a (h.add o) :=
  ⟨g.ok.add o, fun id o' e => by rw [Sim.hadd_ne h o (by have := g.old.lt e; have := g.nx; omega)]; exact g.keep id o' e, Nat.le_succ_of_le g.nx, g.old⟩
theorem Gr.kill {a h : Hp} (g : Gr a h) {j : Nat} (h1 : a.nx ≤ j) : Gr a (h.kill j) :=
  ⟨g.ok.kill j, fun id o' e => by rw [Sim.hkill_ne h (by have := g.old.lt e; omega)]; exact g.keep id o' e, g.nx, g.old⟩
theorem Gr.bump {a h : Hp} (g : Gr a h) (n : Nat) : Gr a (h.bump n) := ⟨g.ok.bump n, g.keep, Nat.le_trans g.nx (Nat.le_add_right _ _), g.old⟩

/-- The laid tables stay. -/
theorem laid1_keep {h h' : Hp} {g : Nat} {T : List V} (hk : ∀ id o, h.get id = some o → h'.get id = some o) (hl : laid1 h g T = true) : laid1 h' g T = true := by
  have := hk _ _ (laid1_get hl)
  unfold laid1
  rw [this]
  simp [Sim.beqs_self_V]
theorem Gr.laid {h h' : Hp} (g : Gr h h') : ∀ {L : List (Nat × List V)}, laidB h L = true → laidB h' L = true
  | [], _ => rfl
  | p :: L, hl => by
    simp only [laidB, Bool.and_eq_true] at hl ⊢
    exact ⟨laid1_keep g.keep hl.1, g.laid hl.2⟩
end Go.Proofs.YtgnpoaoekhplhaaGreatDoor.AE
set_option linter.unusedVariables false
/- More rules, and the shapes of slices in a heap. -/
namespace Go.Proofs.YtgnpoaoekhplhaaGreatDoor.AE
open Go Sim

theorem eqB_dec (a b : List UInt8) : eqB a b = decide (a = b) := by
  rw [eqB_eq, Bool.eq_iff_iff]; simp
@[go_sem] theorem bin_s_eql (a b : List UInt8) : binV .eql (some (.s a)) (some (.s b)) = some (.b (decide (a = b))) := by
  show some (V.b (eqB a b)) = _
  rw [eqB_dec]
@[go_sem] theorem bin_s_neq (a b : List UInt8) : binV .neq (some (.s a)) (some (.s b)) = some (.b (!decide (a = b))) := by
  show some (V.b (!eqB a b)) = _
  rw [eqB_dec]
theorem bin_s_add {a b : List UInt8} (h : a.length + b.length < 9223372036854775808) : binV .add (some (.s a)) (some (.s b)) = some (.s (a ++ b)) := by
  show (bif Nat.blt (a.length + b.length) 9223372036854775808 then some (V.s (a ++ b)) else none) = _
  have : Nat.blt (a.length + b.length) 9223372036854775808 = true := by simp [Nat.blt]; omega
  rw [this]; rfl
@[go_sem] theorem pick_b (c : Bool) (a b : V) : pickV (some (.b c)) (some a) (some b) = some (bif c then a else b) := by cases c <;> rfl
@[go_sem] theorem pick_t (a b : Option V) : pickV (some (.b true)) a b = a := rfl
@[go_sem] theorem pick_f (a b : Option V) : pickV (some (.b false)) a b = b := rfl
@[go_sem] theorem exV_tu (n : Nat) (l : List V) : exV n (some (.tu l)) = nth l n := rfl
@[go_sem] theorem nth_zero (v : V) (l : List V) : nth (v :: l) 0 = some v := rfl
@[go_sem] theorem nth_1 (a b : V) (l : List V) : nth (a :: b :: l) 1 = some b := rfl
@[go_sem] theorem nth_2 (a b c : V) (l : List V) : nth (a :: b :: c :: l) 2 = some c := rfl
@[go_sem] theorem nth_3 (a b c d : V) (l : List V) : nth (a :: b :: c :: d :: l) 3 = some d := rfl
@[go_sem] theorem eqV_bool (x y : Bool) (neg : Bool) : eqVO neg .bool (some (.b x)) (some (.b y)) = some (.b (bif neg then !(x == y) else (x == y))) := rfl
@[go_sem] theorem eqV_int (k k' : IntKind) (x y : Int) (neg : Bool) : eqVO neg .int (some (.i k x)) (some (.i k y)) = some (.b (bif neg then !(eqI x y) else eqI x y)) := by
  show eqO neg (bif Nat.beq (ikn k) (ikn k) then some (eqI x y) else none) = _
  rw [show Nat.beq (ikn k) (ikn k) = true by simp]; rfl
@[go_sem] theorem faV_p (off id o : Nat) : faV off (some (.p id o)) = some (.p id (o + off)) := rfl
@[go_sem] theorem fdV_ag (off : Nat) (n : Option Nat) (cs : List V) : fdV off n (some (.ag cs)) = part1 off n cs := rfl
@[go_sem] theorem part1_none (off : Nat) (cs : List V) : part1 off none cs = nth cs off := rfl
@[go_sem] theorem part1_some (off n : Nat) (cs : List V) : part1 off (some n) cs = agO (takeN (dropN cs off) n) := rfl
@[go_sem] theorem agO_some' (cs : List V) : agO (some cs) = some (.ag cs) := rfl
@[go_sem] theorem dropN_0 (l : List V) : dropN l 0 = l := by cases l <;> rfl
@[go_sem] theorem dropN_s (x : V) (l : List V) (n : Nat) : dropN (x :: l) (n + 1) = dropN l n := rfl
theorem takeN_eq {α : Type} : ∀ (m : List α) (n : Nat), n ≤ m.length → takeN m n = some (m.take n)
  | m, 0, _ => by cases m <;> rfl
  | [], n + 1, h => by simp at h
  | x :: m, n + 1, h => by simp only [takeN, takeN_eq m n (by simpa using h), List.take_succ_cons]
@[go_sem] theorem nck_p (id o : Nat) : nckV (some (.p id o)) = some (.p id o) := rfl
theorem ia_sl {esz id off len j : Nat} {c : Option Nat} {k : IntKind} (h : j < len) : iaV (.sl esz) (some (.sl id off len c)) (some (.i k (j : Int))) = some (.p id (off + j * esz)) := by
  show (bif Nat.blt j len then some (V.p id (off + j * esz)) else none) = _
  have : Nat.blt j len = true := by simp [Nat.blt]; omega
  rw [this]; rfl
theorem ia_ar {n esz id off j : Nat} {k : IntKind} (h : j < n) : iaV (.ar n esz) (some (.p id off)) (some (.i k (j : Int))) = some (.p id (off + j * esz)) := by
  show (bif Nat.blt j n then some (V.p id (off + j * esz)) else none) = _
  have : Nat.blt j n = true := by simp [Nat.blt]; omega
  rw [this]; rfl
@[go_sem] theorem mm_one (b : Bool) (x : V) : mmO b (some [x]) = some x := rfl
theorem mm_two (b : Bool) (k : IntKind) (x y : Int) : mmO b (some [.i k x, .i k y]) = some (.i k (bif (bif b then ltI x y else ltI y x) then y else x)) := by
  show (bif Nat.beq (ikn k) (ikn k) then _ else _) = _
  rw [show Nat.beq (ikn k) (ikn k) = true by simp]; rfl
theorem mm_max {k : IntKind} (a b : Nat) : mmO true (some [.i k (a : Int), .i k (b : Int)]) = some (.i k ((max a b : Nat) : Int)) := by
  rw [mm_two]
  simp only [cond_true, ltI_nat]
  by_cases h : a < b
  · simp [h, Nat.max_eq_right (Nat.le_of_lt h)]
  · simp [h, Nat.max_eq_left (Nat.le_of_not_lt h)]
theorem mm_min {k : IntKind} (a b : Nat) : mmO false (some [.i k (a : Int), .i k (b : Int)]) = some (.i k ((min a b : Nat) : Int)) := by
  rw [mm_two]
  simp only [cond_false, ltI_nat]
  by_cases h : b < a
  · simp [h, Nat.min_eq_right (Nat.le_of_lt h)]
  · simp [h, Nat.min_eq_left (Nat.le_of_not_lt h)]
theorem mm_neg {k : IntKind} {a : Nat} {z : Int} (h : z < 0) : mmO true (some [.i k (a : Int), .i k z]) = some (.i k (a : Int)) := by
  rw [mm_two]
  simp only [cond_true, ltI_int]
  rw [show decide ((a : Int) < z) = false by simp; omega]; rfl
@[go_sem] theorem mkf_some (f : Nat) (a b : List V) : mkfV f (some a) (some b) = some (.fn f a b) := rfl

/-! ### Heap operations, down to what lies at a name -/
theorem hadd_eq (h : Hp) {i : Nat} (o : O) (hi : i = h.nx) : (h.add o).get i = some o := by subst hi; exact hadd_same h o
theorem hset_eq (h : Hp) {i j : Nat} (o : O) (hi : i = j) : (h.set j o).get i = some o := by subst hi; exact hset_same h i o
noncomputable def wrO (h : Hp) (id off : Nat) (vs : List V) : Option O → Option Hp
  | some (.c cs ty op false sb fz) => bif allNum vs && Nat.ble fz off then (match putAt cs off vs with
    | some cs => some (h.set id (.c cs ty op false sb fz))
    | none => none) else none
  | _ => none
theorem write_eq (h : Hp) (id off : Nat) (vs : List V) : h.write id off vs = wrO h id off vs (h.get id) := by
  unfold Hp.write wrO
  rcases h.get id with _ | (_ | _ | _)
  · rfl
  · rename_i cs ty op ro sb fz; cases ro <;> rfl
  · rfl
  · rfl
@[go_sem] theorem wrO_c (h : Hp) (id off : Nat) (vs cs : List V) (ty : Nat) (op : Option Nat) (sb : Bool) (fz : Nat) :
    wrO h id off vs (some (.c cs ty op false sb fz)) = bif allNum vs && Nat.ble fz off then (match putAt cs off vs with
    | some cs => some (h.set id (.c cs ty op false sb fz))
    | none => none) else none := rfl
@[go_sem] theorem st_eq (n id off : Nat) (v : V) (h : Hp) : stV n (some (.p id off)) (some v) h = bif Nat.beq v.cells.length n then tuO (wrO h id off v.cells (h.get id)) else none := by
  show (bif Nat.beq v.cells.length n then tuO (h.write id off v.cells) else none) = _
  rw [write_eq]
@[go_sem] theorem tuO_some (h : Hp) : tuO (some h) = some (.tu [], h) := rfl
@[go_sem] theorem valO_some (v : V) (h : Hp) : valO v (some h) = some (v, h) := rfl
@[go_sem] theorem putAt_nil (l : List V) (k : Nat) : putAt l k [] = some l := by cases l <;> cases k <;> rfl
@[go_sem] theorem putAt_0 (x y : V) (l ys : List V) : putAt (x :: l) 0 (y :: ys) = (match putAt l 0 ys with
    | some r => some (y :: r)
    | none => none) := by
  simp only [putAt]
  cases putAt l 0 ys <;> rfl
theorem putAt_s (x y : V) (l ys : List V) (k : Nat) : putAt (x :: l) (k + 1) (y :: ys) = (match putAt l k (y :: ys) with
    | some r => some (x :: r)
    | none => none) := by
  simp only [putAt]
  cases putAt l k (y :: ys) <;> rfl
@[go_sem] theorem putAt_1 (x x1 y : V) (l ys : List V) : putAt (x :: x1 :: l) 1 (y :: ys) = (match putAt (x1 :: l) 0 (y :: ys) with
    | some r => some (x :: r)
    | none => none) := putAt_s x y (x1 :: l) ys 0
@[go_sem] theorem putAt_2 (x x1 x2 y : V) (l ys : List V) : putAt (x :: x1 :: x2 :: l) 2 (y :: ys) = (match putAt (x2 :: l) 0 (y :: ys) with
    | some r => some (x :: x1 :: r)
    | none => none) := by
  rw [putAt_s x y (x1 :: x2 :: l) ys 1, putAt_1]
  cases putAt (x2 :: l) 0 (y :: ys) <;> rfl
theorem putAt_set {l : List V} {k : Nat} (v : V) (h : k < l.length) : putAt l k [v] = some (l.set k v) := by
  induction l generalizing k with
  | nil => simp at h
  | cons x l ih =>
    cases k with
    | zero => rw [putAt_0, putAt_nil]; rfl
    | succ k => rw [putAt_s, ih (by simpa using h)]; rfl
@[go_sem] theorem cells_i (k : IntKind) (n : Int) : V.cells (.i k n) = [.i k n] := rfl
@[go_sem] theorem cells_b (x : Bool) : V.cells (.b x) = [.b x] := rfl
@[go_sem] theorem cells_s (l : List UInt8) : V.cells (.s l) = [.s l] := rfl
@[go_sem] theorem cells_p (a b : Nat) : V.cells (.p a b) = [.p a b] := rfl
@[go_sem] theorem cells_pn : V.cells .pn = [.pn] := rfl
@[go_sem] theorem cells_sn : V.cells .sn = [.sn] := rfl
@[go_sem] theorem cells_sl (a b c : Nat) (d : Option Nat) : V.cells (.sl a b c d) = [.sl a b c d] := rfl
@[go_sem] theorem cells_fn (f : Nat) (a b : List V) : V.cells (.fn f a b) = [.fn f a b] := rfl
@[go_sem] theorem cells_ag (l : List V) : V.cells (.ag l) = l := rfl
attribute [go_sem] List.length_cons List.length_nil
@[go_sem] theorem box_eq (ty n : Nat) (v : V) : boxV ty n (some v) = bif Nat.beq v.cells.length n then some (.c v.cells ty none false false 0, fun id => .p id 0) else none := rfl
@[go_sem] theorem bsl_eq (ty len : Nat) (cs : List V) : bslV ty len (some cs) = some (.c cs ty none false false 0, fun id => .sl id 0 len (some len)) := rfl
@[go_sem] theorem fillO_some (zs : List V) (ps : List (Nat × Nat × V)) : fillO zs (some ps) = fillV zs ps := rfl
@[go_sem] theorem fillV_nil (cs : List V) : fillV cs [] = some cs := rfl
@[go_sem] theorem fillV_cons (cs : List V) (off size : Nat) (v : V) (rest : List (Nat × Nat × V)) : fillV cs ((off, size, v) :: rest) = bif Nat.beq v.cells.length size && Nat.ble (off + size) cs.length then (match putAt cs off v.cells with
      | some cs => fillV cs rest
      | none => none) else none := rfl
@[go_sem] theorem allNum_nil : allNum [] = true := rfl
@[go_sem] theorem allNum_cons (x : V) (l : List V) : allNum (x :: l) = (x.isNum && allNum l) := rfl
@[go_sem] theorem num_i (k : IntKind) (n : Int) : V.isNum (.i k n) = true := rfl
@[go_sem] theorem num_b (x : Bool) : V.isNum (.b x) = true := rfl
@[go_sem] theorem num_s (l : List UInt8) : V.isNum (.s l) = true := rfl
@[go_sem] theorem num_sn : V.isNum .sn = true := rfl
@[go_sem] theorem num_pn : V.isNum .pn = true := rfl
@[go_sem] theorem num_p (a b : Nat) : V.isNum (.p a b) = true := rfl
@[go_sem] theorem num_sl (a b c : Nat) (d : Option Nat) : V.isNum (.sl a b c d) = true := rfl
@[go_sem] theorem num_fn (f : Nat) (a b : List V) : V.isNum (.fn f a b) = true := rfl
theorem mks_ok {ty bytes : Nat} {z : List V} {k k' : IntKind} {l c : Nat} (h1 : l ≤ c) (h2 : c * bytes ≤ 1099511627776) (h3 : c ≤ 1099511627776) :
    mksV ty bytes z (some (.i k (l : Int))) (some (.i k' (c : Int))) = some (.c (rep c z) ty none false false 0, fun id => .sl id 0 l (some c)) := by
  show (bif Nat.ble l c && Nat.ble (c * bytes) 1099511627776 && Nat.ble c 1099511627776 then _ else _) = _
  rw [show Nat.ble l c = true by simp; omega, show Nat.ble (c * bytes) 1099511627776 = true by simp; omega, show Nat.ble c 1099511627776 = true by simp; omega]; rfl

/-! ### Cells -/
@[go_sem] theorem cell1_c (o : Nat) (cs : List V) (ty : Nat) (op : Option Nat) (ro sb : Bool) (fz : Nat) : cell1 o (some (.c cs ty op ro sb fz)) = nth cs o := rfl
@[go_sem] theorem ldn_eq (n id o : Nat) (h : Hp) : ldV (some n) (some (.p id o)) h = agO (cellsN o n (h.get id)) := rfl
@[go_sem] theorem cellsN_c (o n : Nat) (cs : List V) (ty : Nat) (op : Option Nat) (ro sb : Bool) (fz : Nat) : cellsN o n (some (.c cs ty op ro sb fz)) = takeN (dropN cs o) n := rfl
@[go_sem] theorem takeN_0 (l : List V) : takeN l 0 = some [] := by cases l <;> rfl
@[go_sem] theorem takeN_1 (x : V) (l : List V) : takeN (x :: l) 1 = some [x] := by cases l <;> rfl
@[go_sem] theorem takeN_2 (x y : V) (l : List V) : takeN (x :: y :: l) 2 = some [x, y] := by cases l <;> rfl
@[go_sem] theorem takeN_3 (x y z : V) (l : List V) : takeN (x :: y :: z :: l) 3 = some [x, y, z] := by cases l <;> rfl
@[go_sem] theorem dropN_1 (x : V) (l : List V) : dropN (x :: l) 1 = dropN l 0 := rfl
@[go_sem] theorem dropN_2 (x y : V) (l : List V) : dropN (x :: y :: l) 2 = dropN l 0 := rfl
@[go_sem] theorem dropN_3 (x y z : V) (l : List V) : dropN (x :: y :: z :: l) 3 = dropN l 0 := rfl
/-- A cell of a heap. -/
noncomputable def Hp.at (h : Hp) (id o : Nat) : Option V := cell1 o (h.get id)
theorem at_of {h : Hp} {id o ty fz : Nat} {cs : List V} {op : Option Nat} {ro sb : Bool} (e : h.get id = some (.c cs ty op ro sb fz)) : h.at id o = cs[o]? := by
  unfold Hp.at; rw [e]; exact nth_eq cs o
@[go_sem] theorem ld_at (id o : Nat) (h : Hp) : ldV none (some (.p id o)) h = h.at id o := rfl
theorem at_add_same (h : Hp) {i : Nat} (o : O) (k : Nat) (hi : i = h.nx) : (h.add o).at i k = cell1 k (some o) := by unfold Hp.at; rw [hadd_eq h o hi]
theorem at_add_ne (h : Hp) {i : Nat} (o : O) (k : Nat) (hi : i ≠ h.nx) : (h.add o).at i k = h.at i k := by unfold Hp.at; rw [hadd_ne h o hi]
theorem at_set_same (h : Hp) {i j : Nat} (o : O) (k : Nat) (hi : i = j) : (h.set j o).at i k = cell1 k (some o) := by unfold Hp.at; rw [hset_eq h o hi]
theorem at_set_ne (h : Hp) {i j : Nat} (o : O) (k : Nat) (hi : i ≠ j) : (h.set j o).at i k = h.at i k := by unfold Hp.at; rw [hset_ne h o hi]
theorem at_kill_ne (h : Hp) {i j : Nat} (k : Nat) (hi : i ≠ j) : (h.kill j).at i k = h.at i k := by unfold Hp.at; rw [hkill_ne h hi]
@[go_sem] theorem at_bump (h : Hp) (n i k : Nat) : (h.bump n).at i k = h.at i k := rfl
theorem at_block {h : Hp} {id o : Nat} {v : V} (e : h.at id o = some v) : ∃ cs ty op ro sb fz, h.get id = some (.c cs ty op ro sb fz) ∧ cs[o]? = some v := by
  unfold Hp.at cell1 at e
  split at e
  · next cs ty op ro sb fz hg => exact ⟨cs, ty, op, ro, sb, fz, hg, by rw [← nth_eq]; exact e⟩
  · cases e
theorem Gr.at {h h' : Hp} (g : Gr h h') {id o : Nat} {v : V} (e : h.at id o = some v) : h'.at id o = some v := by
  obtain ⟨cs, ty, op, ro, sb, fz, hg, hv⟩ := at_block e
  rw [at_of (g.keep _ _ hg)]; exact hv
/-- Several cells at once. -/
theorem ld_cells {h : Hp} {id o n : Nat} {l : List V} (hl : l.length = n) (hn : 0 < n) (e : ∀ i (hi : i < l.length), h.at id (o + i) = some l[i]) : ldV (some n) (some (.p id o)) h = some (.ag l) := by
  obtain ⟨cs, ty, op, ro, sb, fz, hg, _⟩ := at_block (e 0 (by omega))
  show agO (cellsN o n (h.get id)) = _
  rw [hg]
  show agO (takeN (dropN cs o) n) = _
  have hc : ∀ i (hi : i < l.length), cs[o + i]? = some l[i] := fun i hi => by have := e i hi; rwa [at_of hg] at this
  have hlen : o + n ≤ cs.length := by
    have := hc (n - 1) (by omega)
    have := (List.getElem?_eq_some_iff.1 this).1
    omega
  rw [dropN_eq, takeN_eq _ _ (by simp; omega)]
  show some (V.ag _) = some (V.ag l)
  congr 2
  apply List.ext_getElem?
  intro i
  by_cases hi : i < n
  · rw [List.getElem?_take, if_pos hi, List.getElem?_drop, hc i (by omega), List.getElem?_eq_getElem]
  · rw [List.getElem?_eq_none (by simp; omega), List.getElem?_eq_none (by omega)]

/-- How far a slice may be cut. -/
def CapOK (h : Hp) (esz id off n : Nat) : Option Nat → Prop
  | some c => n ≤ c
  | none => ∃ cs ty ro sb fz, h.get id = some (.c cs ty (some esz) ro sb fz) ∧ n ≤ (cs.length - off) / esz
/-- A slice whose cells are known, to read. -/
def IsSl (h : Hp) (esz : Nat) (v : V) (n : Nat) (cs : List V) : Prop :=
  cs.length = n * esz ∧ ((v = .sn ∧ n = 0) ∨ ∃ id off cap, v = .sl id off n cap ∧ (∀ i (hi : i < cs.length), h.at id (off + i) = some cs[i]) ∧ CapOK h esz id off n cap)
theorem Gr.cap {h h' : Hp} (g : Gr h h') {esz id off n : Nat} {cap : Option Nat} (e : CapOK h esz id off n cap) : CapOK h' esz id off n cap := by
  cases cap with
  | some c => exact e
  | none => obtain ⟨cs, ty, ro, sb, fz, e1, e2⟩ := e; exact ⟨cs, ty, ro, sb, fz, g.keep _ _ e1, e2⟩
theorem Gr.isSl {h h' : Hp} (g : Gr h h') {esz n : Nat} {v : V} {cs : List V} (e : IsSl h esz v n cs) : IsSl h' esz v n cs :=
  ⟨e.1, e.2.imp id fun ⟨id, off, cap, e1, e2, e3⟩ => ⟨id, off, cap, e1, fun i hi => g.at (e2 i hi), g.cap e3⟩⟩
theorem IsSl.len {h : Hp} {esz n : Nat} {v : V} {cs : List V} (e : IsSl h esz v n cs) : lenV false (some v) = some (.i .i64 (n : Nat)) := by
  rcases e.2 with ⟨rfl, rfl⟩ | ⟨id, off, cap, rfl, _⟩ <;> rfl
theorem IsSl.num {h : Hp} {esz n : Nat} {v : V} {cs : List V} (e : IsSl h esz v n cs) : v.cells = [v] ∧ v.isNum = true := by
  rcases e.2 with ⟨rfl, rfl⟩ | ⟨id, off, cap, rfl, _⟩ <;> exact ⟨rfl, rfl⟩
theorem IsSl.ia {h : Hp} {esz n j : Nat} {v : V} {cs : List V} {k : IntKind} (e : IsSl h esz v n cs) (hj : j < n) : ∃ id off, iaV (.sl esz) (some v) (some (.i k (j : Int))) = some (.p id (off + j * esz)) ∧ ∀ i (hi : i < esz), h.at id (off + j * esz + i) = cs[j * esz + i]? := by
  rcases e.2 with ⟨rfl, rfl⟩ | ⟨id, off, cap, rfl, e2, _⟩
  · omega
  · refine ⟨id, off, ia_sl hj, fun i hi => ?_⟩
    have hlt : j * esz + i < cs.length := by
      rw [e.1]
      have : (j + 1) * esz ≤ n * esz := Nat.mul_le_mul_right _ hj
      rw [Nat.add_mul] at this; omega
    rw [Nat.add_assoc, e2 _ hlt, List.getElem?_eq_getElem hlt]
/-- An element of one cell: its address, and what lies there. -/
theorem IsSl.ia1 {h : Hp} {n j : Nat} {v : V} {cs : List V} {k : IntKind} (e : IsSl h 1 v n cs) (hj : j < n) : ∃ id o x, cs[j]? = some x ∧ iaV (.sl 1) (some v) (some (.i k (j : Int))) = some (.p id o) ∧ h.at id o = some x := by
  obtain ⟨id, off, e1, e2⟩ := e.ia (k := k) hj
  have hlt : j < cs.length := by rw [e.1]; omega
  have := e2 0 (by omega)
  rw [Nat.add_zero, Nat.add_zero, Nat.mul_one] at this
  exact ⟨id, off + j * 1, cs[j], List.getElem?_eq_getElem hlt, e1, by rw [Nat.mul_one, this, List.getElem?_eq_getElem hlt]⟩
/-- A cut of a slice: s[a:b]. -/
theorem IsSl.cut {h : Hp} {esz n : Nat} {v : V} {cs : List V} (e : IsSl h esz v n cs) (hp : 0 < esz) {lo hi : Option V} {a b : Nat} (hb : b ≤ n) (hab : a ≤ b) (hlo : natOf lo 0 = some a) (hhi : natOf hi n = some b) (hin : a < n ∨ a = 0 ∨ ∃ id off c, v = .sl id off n (some c)) (hnn : v = .sn → natOf hi 0 = some 0) :
    ∃ v', slcV (.sl esz) v lo hi none h = some v' ∧ IsSl h esz v' (b - a) ((cs.drop (a * esz)).take ((b - a) * esz)) := by
  have hlen : ((cs.drop (a * esz)).take ((b - a) * esz)).length = (b - a) * esz := by
    rw [List.length_take, List.length_drop, e.1, Nat.min_eq_left]
    rw [← Nat.sub_mul]; exact Nat.mul_le_mul_right _ (by omega)
  rcases e.2 with ⟨rfl, rfl⟩ | ⟨id, off, cap, rfl, e2, e3⟩
  · obtain rfl : b = 0 := by omega
    obtain rfl : a = 0 := by omega
    refine ⟨.sn, ?_, hlen, .inl ⟨rfl, rfl⟩⟩
    show (match natOf none 0, natOf hi 0, natOf lo 0 with
      | some 0, some 0, some 0 => some V.sn
      | _, _, _ => none) = _
    rw [hnn rfl, hlo]; rfl
  · have hcells : ∀ i (hi : i < ((cs.drop (a * esz)).take ((b - a) * esz)).length), h.at id (off + a * esz + i) = some (((cs.drop (a * esz)).take ((b - a) * esz))[i]) := by
      intro i hi
      rw [hlen] at hi
      have hlt : a * esz + i < cs.length := by
        rw [e.1]
        have h1 : (b - a) * esz + a * esz = b * esz := by rw [← Nat.add_mul]; congr 1; omega
        have h2 : b * esz ≤ n * esz := Nat.mul_le_mul_right _ hb
        omega
      rw [Nat.add_assoc, e2 _ hlt]
      simp
    cases cap with
    | some c =>
      have hc : n ≤ c := e3
      have ep : slcV (.sl esz) (.sl id off n (some c)) lo hi none h = some (.sl id (bif Nat.beq c a then off else off + a * esz) (b - a) (some (c - a))) := by
        show slcC esz id off c (some c) (natOf hi n) (natOf lo 0) = _
        rw [hlo, hhi]
        show (bif Nat.ble c c && Nat.ble b c && Nat.ble a b then _ else _) = _
        rw [show Nat.ble c c = true by simp, show Nat.ble b c = true by simp; omega, show Nat.ble a b = true by simp; omega]; rfl
      refine ⟨_, ep, hlen, .inr ⟨id, _, _, rfl, fun i hi => ?_, by show b - a ≤ c - a; omega⟩⟩
      have hne : Nat.beq c a = false := by
        rw [nbeq]; simp
        rw [hlen] at hi
        have : 0 < b - a := by
          rcases Nat.eq_zero_or_pos (b - a) with e | e
          · rw [e] at hi; omega
          · exact e
        omega
      rw [hne]; exact hcells i hi
    | none =>
      obtain ⟨bs, ty, ro, sb, fz, g1, g2⟩ := e3
      have ep : slcV (.sl esz) (.sl id off n none) lo hi none h = some (.sl id (off + a * esz) (b - a) none) := by
        unfold slcV
        simp only [g1]
        rw [show Nat.beq esz esz = true by simp]
        show slcO esz id off ((bs.length - off) / esz) (natOf hi n) (natOf lo 0) = _
        rw [hlo, hhi]
        show (bif Nat.ble b ((bs.length - off) / esz) && Nat.ble a b && (Nat.beq a 0 || Nat.blt a ((bs.length - off) / esz)) then _ else _) = _
        have h3 : (Nat.beq a 0 || Nat.blt a ((bs.length - off) / esz)) = true := by
          rcases hin with h4 | h4 | ⟨_, _, _, h4⟩
          · rw [Bool.or_eq_true]; right; rw [nblt]; simp; omega
          · rw [h4]; rfl
          · cases h4
        rw [show Nat.ble b ((bs.length - off) / esz) = true by simp; omega, show Nat.ble a b = true by simp; omega, h3]; rfl
      refine ⟨_, ep, hlen, .inr ⟨id, _, _, rfl, hcells, ⟨bs, ty, ro, sb, fz, g1, ?_⟩⟩⟩
      have h5 : (bs.length - (off + a * esz)) / esz = (bs.length - off) / esz - a := by
        rw [← Nat.sub_sub, Nat.mul_comm a, Nat.sub_mul_div]
      rw [h5]; omega

theorem slcV_gr {h h' : Hp} (g : Gr h h') {esz : Nat} {v x : V} {lo hi mx : Option V} (e : slcV (.sl esz) v lo hi mx h = some x) : slcV (.sl esz) v lo hi mx h' = some x := by
  cases v with
  | sl id off len cap =>
    cases cap with
    | some c => exact e
    | none =>
      unfold slcV at e ⊢
      simp only at e ⊢
      cases hg : h.get id with
      | none => rw [hg] at e; cases e
      | some o => rw [g.keep _ _ hg]; rw [hg] at e; exact e
  | _ => exact e
/-- A slice of our own that grows. -/
def OwnSl (a h : Hp) (esz ty : Nat) (v : V) (n : Nat) (cs : List V) : Prop :=
  cs.length = n * esz ∧ ((v = .sn ∧ n = 0) ∨ ∃ id, v = .sl id 0 n none ∧ a.nx ≤ id ∧ h.get id = some (.c cs ty (some esz) false false 0))
theorem OwnSl.isSl {a h : Hp} {esz ty n : Nat} {v : V} {cs : List V} (e : OwnSl a h esz ty v n cs) (hp : 0 < esz) : IsSl h esz v n cs := by
  refine ⟨e.1, e.2.imp id fun ⟨id, e1, _, e3⟩ => ⟨id, 0, none, e1, fun i hi => ?_, ⟨cs, ty, _, _, _, e3, ?_⟩⟩⟩
  · rw [Nat.zero_add, at_of e3, List.getElem?_eq_getElem hi]
  · rw [Nat.sub_zero, e.1, Nat.mul_div_cancel _ hp]; exact Nat.le_refl _
theorem OwnSl.nil (a h : Hp) (esz ty : Nat) : OwnSl a h esz ty .sn 0 [] := ⟨by simp, .inl ⟨rfl, rfl⟩⟩
theorem Gr.own {a h h' : Hp} (g : Gr h h') {esz ty n : Nat} {v : V} {cs : List V} (e : OwnSl a h esz ty v n cs) : OwnSl a h' esz ty v n cs :=
  ⟨e.1, e.2.imp id fun ⟨id, e1, e2, e3⟩ => ⟨id, e1, e2, g.keep _ _ e3⟩⟩

theorem allNum_iff (l : List V) : allNum l = true ↔ ∀ v ∈ l, v.isNum = true := by
  induction l with
  | nil => simp [allNum]
  | cons x l ih => simp [allNum, ih]
/-- What an append needs to know of what it appends. -/
theorem elems_sl {h : Hp} {esz n : Nat} {v : V} {cs : List V} (e : IsSl h esz v n cs) (hp : 0 < esz) (hn : 0 < n) : elemsOf h esz v = some (cs, n) := by
  rcases e.2 with ⟨rfl, rfl⟩ | ⟨id, off, cap, rfl, e2, _⟩
  · omega
  · have hpos : 0 < cs.length := by rw [e.1]; exact Nat.mul_pos hn hp
    obtain ⟨bs, ty, op, ro, sb, fz, hg, _⟩ := at_block (e2 0 hpos)
    have hc : ∀ i (hi : i < cs.length), bs[off + i]? = some cs[i] := fun i hi => by have := e2 i hi; rwa [at_of hg] at this
    have hlen : off + n * esz ≤ bs.length := by
      have := hc (cs.length - 1) (by omega)
      have := (List.getElem?_eq_some_iff.1 this).1
      rw [← e.1]; omega
    show (match h.cells id off (n * esz) with
      | some cs => some (cs, n)
      | none => none) = _
    have : h.cells id off (n * esz) = some cs := by
      unfold Hp.cells
      rw [hg]
      show takeN (dropN bs off) (n * esz) = _
      rw [dropN_eq, takeN_eq _ _ (by simp; omega)]
      congr 1
      apply List.ext_getElem?
      intro i
      by_cases hi : i < cs.length
      · rw [List.getElem?_take, if_pos (by rw [← e.1]; exact hi), List.getElem?_drop, hc i hi, List.getElem?_eq_getElem]
      · rw [List.getElem?_eq_none (by simp; rw [← e.1]; omega), List.getElem?_eq_none (by omega)]
    rw [this]
@[go_sem] theorem elems_one (h : Hp) (id : Nat) (c : Option Nat) : elemsOf h 1 (.sl id 0 1 c) = (match h.cells id 0 1 with
    | some cs => some (cs, 1)
    | none => none) := rfl
theorem elems_new {h : Hp} {id ty : Nat} {x : V} {c : Option Nat} (e : h.get id = some (.c [x] ty none false false 0)) : elemsOf h 1 (.sl id 0 1 c) = some ([x], 1) := by
  rw [elems_one]; unfold Hp.cells; rw [e]; rfl
/-- An append to a slice of our own. -/
theorem app_own {a h : Hp} {esz ty bytes n m : Nat} {v y : V} {cs new : List V} (g : Gr a h) (hv : OwnSl a h esz ty v n cs) (hy : elemsOf h esz y = some (new, m)) (hnum : allNum (cs ++ new) = true) (hm : 0 < m)
    (hlen : new.length = m * esz) (hb : (n + m) * bytes ≤ bigB) : ∃ v' h', appO ty esz bytes (some v) (some y) h = some (v', h') ∧ OwnSl a h' esz ty v' (n + m) (cs ++ new) ∧ Gr a h' ∧
      (∀ id o, h.get id = some o → v ≠ .sl id 0 n none → h'.get id = some o) ∧ h.nx ≤ h'.nx := by
  have hble : Nat.ble ((n + m) * bytes) bigB = true := by simp; exact hb
  rcases hv.2 with ⟨rfl, rfl⟩ | ⟨id, rfl, h1, h2⟩
  · obtain rfl : cs = [] := by have := hv.1; simpa using this
    refine ⟨.sl h.nx 0 m none, h.add (.c new ty (some esz) false false 0), ?_, ⟨by simpa using hlen, .inr ⟨h.nx, by simp, g.nx, by simp [hadd_same]⟩⟩, g.add _, fun id o e _ => ?_, Nat.le_succ _⟩
    · show appV h ty esz bytes .sn y = _
      unfold appV
      rw [hy]
      show (bif Nat.beq m 0 then _ else grow h ty esz bytes m new false 0) = _
      rw [show Nat.beq m 0 = false by rw [nbeq]; simp; omega]
      show grow h ty esz bytes m new false 0 = _
      unfold grow
      have h3 : Nat.ble (m * bytes) bigB = true := by simpa using hble
      have h4 : allNum new = true := by simpa using hnum
      rw [h3, h4]; rfl
    · rw [hadd_ne _ _ (by have := g.ok.lt e; omega)]; exact e
  · have hne : h.nx ≠ id := fun e => by have := g.ok.lt h2; omega
    refine ⟨.sl h.nx 0 (n + m) none, (h.kill id).add (.c (cs ++ new) ty (some esz) false false 0), ?_, ⟨by simp [hv.1, hlen, Nat.add_mul], .inr ⟨h.nx, rfl, g.nx, hadd_same (h.kill id) _⟩⟩, (g.kill h1).add _, fun j o e hj => ?_, Nat.le_succ _⟩
    · show appV h ty esz bytes (.sl id 0 n none) y = _
      unfold appV
      rw [hy]
      simp only [h2]
      have e3 : takeN (dropN cs 0) (n * esz) = some cs := by
        rw [dropN_eq, takeN_eq _ _ (by simp [hv.1])]; simp [← hv.1]
      simp only [show Nat.beq ty ty = true by simp, show Nat.beq esz esz = true by simp, show Nat.ble 0 (0 + n * esz) = true by simp, show Nat.beq (0 % esz) 0 = true by simp, show Nat.ble 0 cs.length = true by simp, Bool.and_self, cond_true, e3]
      show grow (h.kill id) ty esz bytes (n + m) (cs ++ new) false (0 - 0) = _
      unfold grow
      rw [hble, hnum]; rfl
    · have hji : j ≠ id := fun e' => hj (by rw [e'])
      rw [hadd_ne (h.kill id) _ (by have := g.ok.lt e; show j ≠ h.nx; omega), hkill_ne _ hji]; exact e
end Go.Proofs.YtgnpoaoekhplhaaGreatDoor.AE
