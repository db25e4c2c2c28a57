/- A part of the proof that croupierlaw11.ModelKnown returns true (its last text says so). No condition of its own. -/
import Derived.Test.YtgnpoaoekhplhaaGreatDoorCode
set_option linter.unusedVariables false
set_option linter.unusedSimpArgs false
set_option linter.unusedSectionVars false
set_option linter.unusedVariables false
/- The evaluator over this program's code, and each function's equation. -/
namespace Go.Proofs.YtgnpoaoekhplhaaGreatDoor.AE.Tst
open Go Go.Proofs.YtgnpoaoekhplhaaGreatDoor.AE Go.Proofs.YtgnpoaoekhplhaaGreatDoor.AE.Sim
noncomputable def fs11 (k : Nat) : Option AFn := fs.get k
def tabU (k : IntKind) (l : List Nat) : List V := l.map fun n => V.i k (.ofNat n)
def z32 : List Nat := [0,1,28,2,29,14,24,3,30,22,20,15,25,17,4,8,31,27,13,23,21,19,16,7,26,12,18,6,11,5,10,9]
def z64 : List Nat := [0,1,56,2,57,49,28,3,61,58,42,50,38,29,17,4,62,47,59,36,45,43,51,22,53,39,33,30,24,18,12,5,63,55,48,27,60,41,37,16,46,35,44,21,52,32,23,11,54,26,40,15,34,20,31,10,25,14,19,9,13,8,7,6]
def z10 : List Nat := [1,10,100,1000,10000,100000,1000000,10000000,100000000,1000000000,10000000000,100000000000,1000000000000,10000000000000,100000000000000,1000000000000000,10000000000000000,100000000000000000,1000000000000000000,10000000000000000000]
/-- The laid variables: uint64pow10, deBruijn32tab, deBruijn64tab. -/
def L11 : List (Nat × List V) := [(0, tabU .u64 z10), (4, tabU .u8 z32), (5, tabU .u8 z64)]
noncomputable def tbx : Tab := tbX 212 193
/-- The answers of model.small that the chapter's examples ask for. -/
def A11 : List Ans := [
  (95, [.s [48]], .tu [.i .i64 (.ofNat 0), .i .i64 (.ofNat 1), .b true]),
  (95, [.s [49]], .tu [.i .i64 (.ofNat 1), .i .i64 (.ofNat 1), .b true]),
  (95, [.s [49, 47, 51]], .tu [.i .i64 (.ofNat 1), .i .i64 (.ofNat 3), .b true]),
  (95, [.s [49, 47, 50]], .tu [.i .i64 (.ofNat 1), .i .i64 (.ofNat 2), .b true]),
  (95, [.s [57, 57, 57, 57]], .tu [.i .i64 (.ofNat 9999), .i .i64 (.ofNat 1), .b true]),
  (95, [.s [49, 47, 57, 57, 57, 57]], .tu [.i .i64 (.ofNat 1), .i .i64 (.ofNat 9999), .b true]),
  (95, [.s [49, 47, 57, 57]], .tu [.i .i64 (.ofNat 1), .i .i64 (.ofNat 99), .b true]),
  (95, [.s [49, 47, 49, 48, 49]], .tu [.i .i64 (.ofNat 1), .i .i64 (.ofNat 101), .b true]),
  (95, [.s [57, 57, 57, 56, 47, 57, 57, 57, 57]], .tu [.i .i64 (.ofNat 9998), .i .i64 (.ofNat 9999), .b true]),
  (95, [.s [49, 48, 48, 48, 48]], .tu [.i .i64 (.ofNat 0), .i .i64 (.ofNat 0), .b false]),
  (95, [.s [49, 47, 49, 48, 48, 48, 48]], .tu [.i .i64 (.ofNat 0), .i .i64 (.ofNat 0), .b false]),
  (95, [.s [49, 47, 49, 48, 48]], .tu [.i .i64 (.ofNat 1), .i .i64 (.ofNat 100), .b true]),
  (95, [.s []], .tu [.i .i64 (.ofNat 0), .i .i64 (.ofNat 0), .b false]),
  (95, [.s [48, 47, 49]], .tu [.i .i64 (.ofNat 0), .i .i64 (.ofNat 0), .b false]),
  (95, [.s [51, 47, 50]], .tu [.i .i64 (.ofNat 3), .i .i64 (.ofNat 2), .b true]),
  (95, [.s [45, 49, 47, 50]], .tu [.i .i64 (.negSucc 0), .i .i64 (.ofNat 2), .b true]),
  (95, [.s [48, 46, 53]], .tu [.i .i64 (.ofNat 0), .i .i64 (.ofNat 0), .b false]),
  (95, [.s [45, 49]], .tu [.i .i64 (.negSucc 0), .i .i64 (.ofNat 1), .b true]),
  (95, [.s [50, 47, 54]], .tu [.i .i64 (.ofNat 0), .i .i64 (.ofNat 0), .b false])]
noncomputable def tbw : Tab := tbA L11 (fun f => Nat.beq f 95) A11 tbx
noncomputable def E : RecT := EV fs11 tbw
theorem E_loop (rd : Option Nat) (b : AC) (st : St) : E (.loop rd b st) = seqO (cd b E rd st) fun st => E (.loop rd b st) := EV_loop rd b st
theorem E_yield (l : Nat) (args : List V) (h : Hp) : E (.yield l args h) = round E l args h := EV_yield l args h
theorem E_call {f : Nat} {args : List V} {h : Hp} {np : Nat} {res : List RV} {body : AC} (hf : fs11 f = some (.fn np res body)) (h0 : Nat.beq f 95 = false) (h1 : Nat.beq f 212 = false) (h2 : Nat.beq f 193 = false) (hn : Nat.beq np args.length = true) :
    E (.call f args h) = fnEnd res (cd body E none ⟨setArgs 0 args .e, [], h⟩) := by
  refine EV_call hf ?_ hn
  simp only [tbw, tbA, tbx, tbX, h0, h1, h2, cond_false]
theorem E_tab {f : Nat} {args : List V} {h h' : Hp} {v : V} (ht : tbw f args h = some (v, h')) : E (.call f args h) = some (.val v h') := by
  have : E (.call f args h) = tabO (tbw f args h) (fnO (fs11 f) E args h) := EV_eq fs11 tbw _
  rw [this, ht]; rfl
theorem E_rule {rd : Option Nat} {b : AC} {α : Type} (Inv : α → Tm → Hp → Prop) (meas : α → Nat) (Post : Ex → Tm → Hp → Prop) {tm0 : Tm} {df : List Nat} (hn : nrf b = true)
    (step : ∀ x tm h, Inv x tm h → AlB (wrs b) tm0 tm → Yc (cd b E rd ⟨tm, df, h⟩) fun e st => match e with
      | .nor => ∃ y, meas y < meas x ∧ Inv y st.tm st.h
      | e => Post e st.tm st.h) (x : α) (tm : Tm) (h : Hp) (hi : Inv x tm h) (ha : AlB (wrs b) tm0 tm) :
    Yc (E (.loop rd b ⟨tm, df, h⟩)) fun e st => st.df = df ∧ AlB (wrs b) tm0 st.tm ∧ Post e st.tm st.h := loop_rule Inv meas Post hn step x tm h hi ha
theorem e212 (l : List UInt8) (c : Nat) (h : Hp) : E (.call 212 [.s l, .i .u8 c] h) = some (.val (.i .i64 (byteIx (c % 256) l 0)) h) := E_tab rfl
theorem e193 (a b : Nat) (h : Hp) : E (.call 193 [.p a b] h) = some (.val (.p a b) h) := E_tab rfl
theorem e3 (h : Hp) : E (.call 3 [] h) = fnEnd [.t 0] (cd b3 E none ⟨setArgs 0 [] .e, [], h⟩) := E_call rfl rfl rfl rfl rfl
theorem e9 (x0 : V) (h : Hp) : E (.call 9 [x0] h) = fnEnd [.t 2] (cd b9 E none ⟨setArgs 0 [x0] .e, [], h⟩) := E_call rfl rfl rfl rfl rfl
theorem e10 (x0 : V) (h : Hp) : E (.call 10 [x0] h) = fnEnd [.t 2] (cd b10 E none ⟨setArgs 0 [x0] .e, [], h⟩) := E_call rfl rfl rfl rfl rfl
theorem e11 (x0 : V) (h : Hp) : E (.call 11 [x0] h) = fnEnd [.c 2 (some 2)] (cd b11 E none ⟨setArgs 0 [x0] .e, [], h⟩) := E_call rfl rfl rfl rfl rfl
theorem e12 (h : Hp) : E (.call 12 [] h) = fnEnd [.c 0 (some 2)] (cd b12 E none ⟨setArgs 0 [] .e, [], h⟩) := E_call rfl rfl rfl rfl rfl
theorem e13 (x0 x1 : V) (h : Hp) : E (.call 13 [x0, x1] h) = fnEnd [.c 4 (some 2)] (cd b13 E none ⟨setArgs 0 [x0, x1] .e, [], h⟩) := E_call rfl rfl rfl rfl rfl
theorem e14 (x0 x1 : V) (h : Hp) : E (.call 14 [x0, x1] h) = fnEnd [.c 4 (some 2)] (cd b14 E none ⟨setArgs 0 [x0, x1] .e, [], h⟩) := E_call rfl rfl rfl rfl rfl
theorem e15 (x0 : V) (h : Hp) : E (.call 15 [x0] h) = fnEnd [.t 2] (cd b15 E none ⟨setArgs 0 [x0] .e, [], h⟩) := E_call rfl rfl rfl rfl rfl
theorem e16 (x0 : V) (h : Hp) : E (.call 16 [x0] h) = fnEnd [.t 2, .t 3, .t 4] (cd b16 E none ⟨setArgs 0 [x0] .e, [], h⟩) := E_call rfl rfl rfl rfl rfl
theorem e17 (x0 x1 : V) (h : Hp) : E (.call 17 [x0, x1] h) = fnEnd [.c 4 (some 2), .t 5] (cd b17 E none ⟨setArgs 0 [x0, x1] .e, [], h⟩) := E_call rfl rfl rfl rfl rfl
theorem e18 (x0 x1 x2 : V) (h : Hp) : E (.call 18 [x0, x1, x2] h) = fnEnd [.c 6 (some 2), .t 7] (cd b18 E none ⟨setArgs 0 [x0, x1, x2] .e, [], h⟩) := E_call rfl rfl rfl rfl rfl
theorem e19 (x0 x1 : V) (h : Hp) : E (.call 19 [x0, x1] h) = fnEnd [.c 4 (some 2), .t 5] (cd b19 E none ⟨setArgs 0 [x0, x1] .e, [], h⟩) := E_call rfl rfl rfl rfl rfl
theorem e20 (x0 : V) (h : Hp) : E (.call 20 [x0] h) = fnEnd [.t 2, .t 3] (cd b20 E none ⟨setArgs 0 [x0] .e, [], h⟩) := E_call rfl rfl rfl rfl rfl
theorem e21 (x0 : V) (h : Hp) : E (.call 21 [x0] h) = fnEnd [.t 2] (cd b21 E none ⟨setArgs 0 [x0] .e, [], h⟩) := E_call rfl rfl rfl rfl rfl
theorem e22 (x0 : V) (h : Hp) : E (.call 22 [x0] h) = fnEnd [.t 2] (cd b22 E none ⟨setArgs 0 [x0] .e, [], h⟩) := E_call rfl rfl rfl rfl rfl
theorem e23 (x0 x1 : V) (h : Hp) : E (.call 23 [x0, x1] h) = fnEnd [.t 4] (cd b23 E none ⟨setArgs 0 [x0, x1] .e, [], h⟩) := E_call rfl rfl rfl rfl rfl
theorem e24 (x0 x1 : V) (h : Hp) : E (.call 24 [x0, x1] h) = fnEnd [.t 4] (cd b24 E none ⟨setArgs 0 [x0, x1] .e, [], h⟩) := E_call rfl rfl rfl rfl rfl
theorem e25 (h : Hp) : E (.call 25 [] h) = fnEnd [.t 0] (cd b25 E none ⟨setArgs 0 [] .e, [], h⟩) := E_call rfl rfl rfl rfl rfl
theorem e39 (x0 x1 : V) (h : Hp) : E (.call 39 [x0, x1] h) = fnEnd [.t 4] (cd b39 E none ⟨setArgs 0 [x0, x1] .e, [], h⟩) := E_call rfl rfl rfl rfl rfl
theorem e41 (x0 x1 : V) (h : Hp) : E (.call 41 [x0, x1] h) = fnEnd [.t 4] (cd b41 E none ⟨setArgs 0 [x0, x1] .e, [], h⟩) := E_call rfl rfl rfl rfl rfl
theorem e42 (x0 x1 : V) (h : Hp) : E (.call 42 [x0, x1] h) = fnEnd [.t 4] (cd b42 E none ⟨setArgs 0 [x0, x1] .e, [], h⟩) := E_call rfl rfl rfl rfl rfl
theorem e44 (x0 : V) (h : Hp) : E (.call 44 [x0] h) = fnEnd [.t 2, .t 3] (cd b44 E none ⟨setArgs 0 [x0] .e, [], h⟩) := E_call rfl rfl rfl rfl rfl
theorem e45 (x0 x1 x2 : V) (h : Hp) : E (.call 45 [x0, x1, x2] h) = fnEnd [.c 6 (some 2)] (cd b45 E none ⟨setArgs 0 [x0, x1, x2] .e, [], h⟩) := E_call rfl rfl rfl rfl rfl
theorem e46 (x0 : V) (h : Hp) : E (.call 46 [x0] h) = fnEnd [.t 2] (cd b46 E none ⟨setArgs 0 [x0] .e, [], h⟩) := E_call rfl rfl rfl rfl rfl
theorem e47 (x0 x1 x2 : V) (h : Hp) : E (.call 47 [x0, x1, x2] h) = fnEnd [.t 4] (cd b47 E none ⟨setArgs 0 [x0, x1, x2] .e, [], h⟩) := E_call rfl rfl rfl rfl rfl
theorem e48 (x0 : V) (h : Hp) : E (.call 48 [x0] h) = fnEnd [.t 2] (cd b48 E none ⟨setArgs 0 [x0] .e, [], h⟩) := E_call rfl rfl rfl rfl rfl
theorem e49 (x0 : V) (h : Hp) : E (.call 49 [x0] h) = fnEnd [.t 2] (cd b49 E none ⟨setArgs 0 [x0] .e, [], h⟩) := E_call rfl rfl rfl rfl rfl
theorem e50 (x0 : V) (h : Hp) : E (.call 50 [x0] h) = fnEnd [] (cd b50 E none ⟨setArgs 0 [x0] .e, [], h⟩) := E_call rfl rfl rfl rfl rfl
theorem e51 (x0 : V) (h : Hp) : E (.call 51 [x0] h) = fnEnd [.t 2] (cd b51 E none ⟨setArgs 0 [x0] .e, [], h⟩) := E_call rfl rfl rfl rfl rfl
theorem e52 (x0 x1 : V) (h : Hp) : E (.call 52 [x0, x1] h) = fnEnd [.t 4] (cd b52 E none ⟨setArgs 0 [x0, x1] .e, [], h⟩) := E_call rfl rfl rfl rfl rfl
theorem e53 (x0 : V) (h : Hp) : E (.call 53 [x0] h) = fnEnd [.t 2] (cd b53 E none ⟨setArgs 0 [x0] .e, [], h⟩) := E_call rfl rfl rfl rfl rfl
theorem e54 (x0 x1 x2 : V) (h : Hp) : E (.call 54 [x0, x1, x2] h) = fnEnd [.t 6] (cd b54 E none ⟨setArgs 0 [x0, x1, x2] .e, [], h⟩) := E_call rfl rfl rfl rfl rfl
theorem e55 (x0 x1 : V) (h : Hp) : E (.call 55 [x0, x1] h) = fnEnd [.t 4] (cd b55 E none ⟨setArgs 0 [x0, x1] .e, [], h⟩) := E_call rfl rfl rfl rfl rfl
theorem e56 (x0 x1 x2 : V) (h : Hp) : E (.call 56 [x0, x1, x2] h) = fnEnd [.t 6] (cd b56 E none ⟨setArgs 0 [x0, x1, x2] .e, [], h⟩) := E_call rfl rfl rfl rfl rfl
theorem e57 (x0 x1 : V) (h : Hp) : E (.call 57 [x0, x1] h) = fnEnd [.t 4] (cd b57 E none ⟨setArgs 0 [x0, x1] .e, [], h⟩) := E_call rfl rfl rfl rfl rfl
theorem e58 (x0 x1 : V) (h : Hp) : E (.call 58 [x0, x1] h) = fnEnd [.t 4] (cd b58 E none ⟨setArgs 0 [x0, x1] .e, [], h⟩) := E_call rfl rfl rfl rfl rfl
theorem e68 (x0 x1 : V) (h : Hp) : E (.call 68 [x0, x1] h) = fnEnd [.t 4] (cd b68 E none ⟨setArgs 0 [x0, x1] .e, [], h⟩) := E_call rfl rfl rfl rfl rfl
theorem e70 (x0 x1 : V) (h : Hp) : E (.call 70 [x0, x1] h) = fnEnd [.t 4] (cd b70 E none ⟨setArgs 0 [x0, x1] .e, [], h⟩) := E_call rfl rfl rfl rfl rfl
theorem e71 (x0 x1 : V) (h : Hp) : E (.call 71 [x0, x1] h) = fnEnd [.t 4] (cd b71 E none ⟨setArgs 0 [x0, x1] .e, [], h⟩) := E_call rfl rfl rfl rfl rfl
theorem e72 (x0 : V) (h : Hp) : E (.call 72 [x0] h) = fnEnd [.t 2] (cd b72 E none ⟨setArgs 0 [x0] .e, [], h⟩) := E_call rfl rfl rfl rfl rfl
theorem e73 (x0 : V) (h : Hp) : E (.call 73 [x0] h) = fnEnd [.t 2] (cd b73 E none ⟨setArgs 0 [x0] .e, [], h⟩) := E_call rfl rfl rfl rfl rfl
theorem e74 (x0 : V) (h : Hp) : E (.call 74 [x0] h) = fnEnd [.c 2 none] (cd b74 E none ⟨setArgs 0 [x0] .e, [], h⟩) := E_call rfl rfl rfl rfl rfl
theorem e75 (x0 : V) (h : Hp) : E (.call 75 [x0] h) = fnEnd [.c 2 none] (cd b75 E none ⟨setArgs 0 [x0] .e, [], h⟩) := E_call rfl rfl rfl rfl rfl
theorem e76 (x0 : V) (h : Hp) : E (.call 76 [x0] h) = fnEnd [.c 2 none] (cd b76 E none ⟨setArgs 0 [x0] .e, [], h⟩) := E_call rfl rfl rfl rfl rfl
theorem e77 (x0 : V) (h : Hp) : E (.call 77 [x0] h) = fnEnd [.t 2] (cd b77 E none ⟨setArgs 0 [x0] .e, [], h⟩) := E_call rfl rfl rfl rfl rfl
theorem e78 (x0 x1 : V) (h : Hp) : E (.call 78 [x0, x1] h) = fnEnd [] (cd b78 E none ⟨setArgs 0 [x0, x1] .e, [], h⟩) := E_call rfl rfl rfl rfl rfl
theorem e79 (x0 x1 x2 x3 : V) (h : Hp) : E (.call 79 [x0, x1, x2, x3] h) = fnEnd [] (cd b79 E none ⟨setArgs 0 [x0, x1, x2, x3] .e, [], h⟩) := E_call rfl rfl rfl rfl rfl
theorem e80 (x0 : V) (h : Hp) : E (.call 80 [x0] h) = fnEnd [.t 2] (cd b80 E none ⟨setArgs 0 [x0] .e, [], h⟩) := E_call rfl rfl rfl rfl rfl
theorem e81 (x0 x1 : V) (h : Hp) : E (.call 81 [x0, x1] h) = fnEnd [.t 4] (cd b81 E none ⟨setArgs 0 [x0, x1] .e, [], h⟩) := E_call rfl rfl rfl rfl rfl
theorem e89 (x0 : V) (h : Hp) : E (.call 89 [x0] h) = fnEnd [.t 2] (cd b89 E none ⟨setArgs 0 [x0] .e, [], h⟩) := E_call rfl rfl rfl rfl rfl
theorem e90 (x0 : V) (h : Hp) : E (.call 90 [x0] h) = fnEnd [.t 2] (cd b90 E none ⟨setArgs 0 [x0] .e, [], h⟩) := E_call rfl rfl rfl rfl rfl
theorem e91 (x0 x1 : V) (h : Hp) : E (.call 91 [x0, x1] h) = fnEnd [.t 4] (cd b91 E none ⟨setArgs 0 [x0, x1] .e, [], h⟩) := E_call rfl rfl rfl rfl rfl
theorem e92 (x0 : V) (h : Hp) : E (.call 92 [x0] h) = fnEnd [.t 2] (cd b92 E none ⟨setArgs 0 [x0] .e, [], h⟩) := E_call rfl rfl rfl rfl rfl
theorem e93 (x0 x1 : V) (h : Hp) : E (.call 93 [x0, x1] h) = fnEnd [.t 4] (cd b93 E none ⟨setArgs 0 [x0, x1] .e, [], h⟩) := E_call rfl rfl rfl rfl rfl
theorem e94 (x0 : V) (h : Hp) : E (.call 94 [x0] h) = fnEnd [.t 2] (cd b94 E none ⟨setArgs 0 [x0] .e, [], h⟩) := E_call rfl rfl rfl rfl rfl
theorem e96 (x0 x1 : V) (h : Hp) : E (.call 96 [x0, x1] h) = fnEnd [.t 4] (cd b96 E none ⟨setArgs 0 [x0, x1] .e, [], h⟩) := E_call rfl rfl rfl rfl rfl
theorem e97 (x0 x1 : V) (h : Hp) : E (.call 97 [x0, x1] h) = fnEnd [.t 4] (cd b97 E none ⟨setArgs 0 [x0, x1] .e, [], h⟩) := E_call rfl rfl rfl rfl rfl
theorem e98 (x0 x1 x2 : V) (h : Hp) : E (.call 98 [x0, x1, x2] h) = fnEnd [] (cd b98 E none ⟨setArgs 0 [x0, x1, x2] .e, [], h⟩) := E_call rfl rfl rfl rfl rfl
theorem e99 (x0 x1 x2 : V) (h : Hp) : E (.call 99 [x0, x1, x2] h) = fnEnd [] (cd b99 E none ⟨setArgs 0 [x0, x1, x2] .e, [], h⟩) := E_call rfl rfl rfl rfl rfl
theorem e100 (x0 x1 x2 : V) (h : Hp) : E (.call 100 [x0, x1, x2] h) = fnEnd [] (cd b100 E none ⟨setArgs 0 [x0, x1, x2] .e, [], h⟩) := E_call rfl rfl rfl rfl rfl
theorem e101 (x0 x1 x2 : V) (h : Hp) : E (.call 101 [x0, x1, x2] h) = fnEnd [.t 6, .t 7] (cd b101 E none ⟨setArgs 0 [x0, x1, x2] .e, [], h⟩) := E_call rfl rfl rfl rfl rfl
theorem e102 (x0 x1 x2 : V) (h : Hp) : E (.call 102 [x0, x1, x2] h) = fnEnd [] (cd b102 E none ⟨setArgs 0 [x0, x1, x2] .e, [], h⟩) := E_call rfl rfl rfl rfl rfl
theorem e103 (x0 x1 x2 : V) (h : Hp) : E (.call 103 [x0, x1, x2] h) = fnEnd [.t 6] (cd b103 E none ⟨setArgs 0 [x0, x1, x2] .e, [], h⟩) := E_call rfl rfl rfl rfl rfl
theorem e104 (x0 x1 x2 x3 : V) (h : Hp) : E (.call 104 [x0, x1, x2, x3] h) = fnEnd [.t 8] (cd b104 E none ⟨setArgs 0 [x0, x1, x2, x3] .e, [], h⟩) := E_call rfl rfl rfl rfl rfl
theorem e105 (x0 x1 x2 x3 : V) (h : Hp) : E (.call 105 [x0, x1, x2, x3] h) = fnEnd [.t 8, .t 9] (cd b105 E none ⟨setArgs 0 [x0, x1, x2, x3] .e, [], h⟩) := E_call rfl rfl rfl rfl rfl
theorem e106 (x0 : V) (h : Hp) : E (.call 106 [x0] h) = fnEnd [.t 2] (cd b106 E none ⟨setArgs 0 [x0] .e, [], h⟩) := E_call rfl rfl rfl rfl rfl
theorem e107 (x0 : V) (h : Hp) : E (.call 107 [x0] h) = fnEnd [.t 2] (cd b107 E none ⟨setArgs 0 [x0] .e, [], h⟩) := E_call rfl rfl rfl rfl rfl
theorem e118 (x0 x1 : V) (h : Hp) : E (.call 118 [x0, x1] h) = fnEnd [.t 4] (cd b118 E none ⟨setArgs 0 [x0, x1] .e, [], h⟩) := E_call rfl rfl rfl rfl rfl
theorem e119 (x0 x1 : V) (h : Hp) : E (.call 119 [x0, x1] h) = fnEnd [.t 4] (cd b119 E none ⟨setArgs 0 [x0, x1] .e, [], h⟩) := E_call rfl rfl rfl rfl rfl
theorem e120 (x0 : V) (h : Hp) : E (.call 120 [x0] h) = fnEnd [.t 2] (cd b120 E none ⟨setArgs 0 [x0] .e, [], h⟩) := E_call rfl rfl rfl rfl rfl
theorem e121 (x0 : V) (h : Hp) : E (.call 121 [x0] h) = fnEnd [.t 2, .t 3, .t 4] (cd b121 E none ⟨setArgs 0 [x0] .e, [], h⟩) := E_call rfl rfl rfl rfl rfl
theorem e122 (x0 : V) (h : Hp) : E (.call 122 [x0] h) = fnEnd [.t 2] (cd b122 E none ⟨setArgs 0 [x0] .e, [], h⟩) := E_call rfl rfl rfl rfl rfl
theorem e123 (x0 x1 : V) (h : Hp) : E (.call 123 [x0, x1] h) = fnEnd [.t 4] (cd b123 E none ⟨setArgs 0 [x0, x1] .e, [], h⟩) := E_call rfl rfl rfl rfl rfl
theorem e124 (x0 x1 x2 x3 : V) (h : Hp) : E (.call 124 [x0, x1, x2, x3] h) = fnEnd [] (cd b124 E none ⟨setArgs 0 [x0, x1, x2, x3] .e, [], h⟩) := E_call rfl rfl rfl rfl rfl
theorem e125 (x0 : V) (h : Hp) : E (.call 125 [x0] h) = fnEnd [.t 2] (cd b125 E none ⟨setArgs 0 [x0] .e, [], h⟩) := E_call rfl rfl rfl rfl rfl
theorem e126 (x0 : V) (h : Hp) : E (.call 126 [x0] h) = fnEnd [.t 2] (cd b126 E none ⟨setArgs 0 [x0] .e, [], h⟩) := E_call rfl rfl rfl rfl rfl
theorem e127 (x0 x1 x2 : V) (h : Hp) : E (.call 127 [x0, x1, x2] h) = fnEnd [.t 6] (cd b127 E none ⟨setArgs 0 [x0, x1, x2] .e, [], h⟩) := E_call rfl rfl rfl rfl rfl
theorem e128 (x0 x1 x2 x3 x4 : V) (h : Hp) : E (.call 128 [x0, x1, x2, x3, x4] h) = fnEnd [.t 10] (cd b128 E none ⟨setArgs 0 [x0, x1, x2, x3, x4] .e, [], h⟩) := E_call rfl rfl rfl rfl rfl
theorem e132 (x0 : V) (h : Hp) : E (.call 132 [x0] h) = fnEnd [.t 2] (cd b132 E none ⟨setArgs 0 [x0] .e, [], h⟩) := E_call rfl rfl rfl rfl rfl
theorem e142 (x0 : V) (h : Hp) : E (.call 142 [x0] h) = fnEnd [.c 2 (some 5)] (cd b142 E none ⟨setArgs 0 [x0] .e, [], h⟩) := E_call rfl rfl rfl rfl rfl
theorem e143 (x0 x1 : V) (h : Hp) : E (.call 143 [x0, x1] h) = fnEnd [.t 4] (cd b143 E none ⟨setArgs 0 [x0, x1] .e, [], h⟩) := E_call rfl rfl rfl rfl rfl
theorem e144 (x0 : V) (h : Hp) : E (.call 144 [x0] h) = fnEnd [.c 2 (some 2), .c 3 (some 2)] (cd b144 E none ⟨setArgs 0 [x0] .e, [], h⟩) := E_call rfl rfl rfl rfl rfl
theorem e145 (x0 : V) (h : Hp) : E (.call 145 [x0] h) = fnEnd [.t 2] (cd b145 E none ⟨setArgs 0 [x0] .e, [], h⟩) := E_call rfl rfl rfl rfl rfl
theorem e146 (x0 x1 x2 x3 : V) (h : Hp) : E (.call 146 [x0, x1, x2, x3] h) = fnEnd [.t 8, .t 9] (cd b146 E none ⟨setArgs 0 [x0, x1, x2, x3] .e, [], h⟩) := E_call rfl rfl rfl rfl rfl
theorem e149 (x0 : V) (h : Hp) : E (.call 149 [x0] h) = fnEnd [.t 2] (cd b149 E none ⟨setArgs 0 [x0] .e, [], h⟩) := E_call rfl rfl rfl rfl rfl
theorem e152 (x0 x1 : V) (h : Hp) : E (.call 152 [x0, x1] h) = fnEnd [.t 4, .t 5, .t 6] (cd b152 E none ⟨setArgs 0 [x0, x1] .e, [], h⟩) := E_call rfl rfl rfl rfl rfl
theorem e153 (x0 : V) (h : Hp) : E (.call 153 [x0] h) = fnEnd [.t 2] (cd b153 E none ⟨setArgs 0 [x0] .e, [], h⟩) := E_call rfl rfl rfl rfl rfl
theorem e154 (x0 : V) (h : Hp) : E (.call 154 [x0] h) = fnEnd [.c 2 (some 4)] (cd b154 E none ⟨setArgs 0 [x0] .e, [], h⟩) := E_call rfl rfl rfl rfl rfl
theorem e155 (x0 : V) (h : Hp) : E (.call 155 [x0] h) = fnEnd [.c 2 (some 2)] (cd b155 E none ⟨setArgs 0 [x0] .e, [], h⟩) := E_call rfl rfl rfl rfl rfl
theorem e156 (x0 x1 : V) (h : Hp) : E (.call 156 [x0, x1] h) = fnEnd [.t 4] (cd b156 E none ⟨setArgs 0 [x0, x1] .e, [], h⟩) := E_call rfl rfl rfl rfl rfl
theorem e157 (x0 x1 : V) (h : Hp) : E (.call 157 [x0, x1] h) = fnEnd [.c 4 (some 2)] (cd b157 E none ⟨setArgs 0 [x0, x1] .e, [], h⟩) := E_call rfl rfl rfl rfl rfl
theorem e158 (x0 : V) (h : Hp) : E (.call 158 [x0] h) = fnEnd [.t 2] (cd b158 E none ⟨setArgs 0 [x0] .e, [], h⟩) := E_call rfl rfl rfl rfl rfl
theorem e159 (x0 x1 : V) (h : Hp) : E (.call 159 [x0, x1] h) = fnEnd [.t 4] (cd b159 E none ⟨setArgs 0 [x0, x1] .e, [], h⟩) := E_call rfl rfl rfl rfl rfl
theorem e160 (x0 x1 : V) (h : Hp) : E (.call 160 [x0, x1] h) = fnEnd [.t 4, .t 5] (cd b160 E none ⟨setArgs 0 [x0, x1] .e, [], h⟩) := E_call rfl rfl rfl rfl rfl
theorem e161 (x0 : V) (h : Hp) : E (.call 161 [x0] h) = fnEnd [.t 2] (cd b161 E none ⟨setArgs 0 [x0] .e, [], h⟩) := E_call rfl rfl rfl rfl rfl
theorem e162 (x0 x1 : V) (h : Hp) : E (.call 162 [x0, x1] h) = fnEnd [.t 4] (cd b162 E none ⟨setArgs 0 [x0, x1] .e, [], h⟩) := E_call rfl rfl rfl rfl rfl
theorem e164 (x0 x1 x2 x3 x4 : V) (h : Hp) : E (.call 164 [x0, x1, x2, x3, x4] h) = fnEnd [.t 10] (cd b164 E none ⟨setArgs 0 [x0, x1, x2, x3, x4] .e, [], h⟩) := E_call rfl rfl rfl rfl rfl
theorem e165 (x0 x1 : V) (h : Hp) : E (.call 165 [x0, x1] h) = fnEnd [.t 4, .t 5, .t 6] (cd b165 E none ⟨setArgs 0 [x0, x1] .e, [], h⟩) := E_call rfl rfl rfl rfl rfl
theorem e166 (x0 x1 : V) (h : Hp) : E (.call 166 [x0, x1] h) = fnEnd [.t 4] (cd b166 E none ⟨setArgs 0 [x0, x1] .e, [], h⟩) := E_call rfl rfl rfl rfl rfl
theorem e167 (x0 : V) (h : Hp) : E (.call 167 [x0] h) = fnEnd [.c 2 (some 2)] (cd b167 E none ⟨setArgs 0 [x0] .e, [], h⟩) := E_call rfl rfl rfl rfl rfl
theorem e168 (x0 x1 : V) (h : Hp) : E (.call 168 [x0, x1] h) = fnEnd [.t 4] (cd b168 E none ⟨setArgs 0 [x0, x1] .e, [], h⟩) := E_call rfl rfl rfl rfl rfl
theorem e169 (x0 : V) (h : Hp) : E (.call 169 [x0] h) = fnEnd [.t 2] (cd b169 E none ⟨setArgs 0 [x0] .e, [], h⟩) := E_call rfl rfl rfl rfl rfl
theorem e170 (x0 x1 : V) (h : Hp) : E (.call 170 [x0, x1] h) = fnEnd [.t 4] (cd b170 E none ⟨setArgs 0 [x0, x1] .e, [], h⟩) := E_call rfl rfl rfl rfl rfl
theorem e171 (x0 x1 : V) (h : Hp) : E (.call 171 [x0, x1] h) = fnEnd [.t 4, .t 5] (cd b171 E none ⟨setArgs 0 [x0, x1] .e, [], h⟩) := E_call rfl rfl rfl rfl rfl
theorem e172 (x0 x1 : V) (h : Hp) : E (.call 172 [x0, x1] h) = fnEnd [.c 4 (some 2)] (cd b172 E none ⟨setArgs 0 [x0, x1] .e, [], h⟩) := E_call rfl rfl rfl rfl rfl
theorem e173 (x0 : V) (h : Hp) : E (.call 173 [x0] h) = fnEnd [.t 2] (cd b173 E none ⟨setArgs 0 [x0] .e, [], h⟩) := E_call rfl rfl rfl rfl rfl
theorem e174 (x0 : V) (h : Hp) : E (.call 174 [x0] h) = fnEnd [] (cd b174 E none ⟨setArgs 0 [x0] .e, [], h⟩) := E_call rfl rfl rfl rfl rfl
theorem e175 (x0 : V) (h : Hp) : E (.call 175 [x0] h) = fnEnd [.t 2] (cd b175 E none ⟨setArgs 0 [x0] .e, [], h⟩) := E_call rfl rfl rfl rfl rfl
theorem e176 (x0 : V) (h : Hp) : E (.call 176 [x0] h) = fnEnd [.t 2] (cd b176 E none ⟨setArgs 0 [x0] .e, [], h⟩) := E_call rfl rfl rfl rfl rfl
theorem e177 (x0 x1 : V) (h : Hp) : E (.call 177 [x0, x1] h) = fnEnd [] (cd b177 E none ⟨setArgs 0 [x0, x1] .e, [], h⟩) := E_call rfl rfl rfl rfl rfl
theorem e178 (x0 x1 x2 x3 x4 : V) (h : Hp) : E (.call 178 [x0, x1, x2, x3, x4] h) = fnEnd [.t 10, .t 11] (cd b178 E none ⟨setArgs 0 [x0, x1, x2, x3, x4] .e, [], h⟩) := E_call rfl rfl rfl rfl rfl
theorem e184 (x0 x1 : V) (h : Hp) : E (.call 184 [x0, x1] h) = fnEnd [.t 4] (cd b184 E none ⟨setArgs 0 [x0, x1] .e, [], h⟩) := E_call rfl rfl rfl rfl rfl
theorem e185 (x0 x1 : V) (h : Hp) : E (.call 185 [x0, x1] h) = fnEnd [.t 4] (cd b185 E none ⟨setArgs 0 [x0, x1] .e, [], h⟩) := E_call rfl rfl rfl rfl rfl
theorem e186 (x0 x1 x2 : V) (h : Hp) : E (.call 186 [x0, x1, x2] h) = fnEnd [.t 6, .t 7] (cd b186 E none ⟨setArgs 0 [x0, x1, x2] .e, [], h⟩) := E_call rfl rfl rfl rfl rfl
theorem e187 (x0 x1 : V) (h : Hp) : E (.call 187 [x0, x1] h) = fnEnd [.t 4] (cd b187 E none ⟨setArgs 0 [x0, x1] .e, [], h⟩) := E_call rfl rfl rfl rfl rfl
theorem e188 (x0 x1 : V) (h : Hp) : E (.call 188 [x0, x1] h) = fnEnd [.t 4, .t 5] (cd b188 E none ⟨setArgs 0 [x0, x1] .e, [], h⟩) := E_call rfl rfl rfl rfl rfl
theorem e189 (x0 x1 : V) (h : Hp) : E (.call 189 [x0, x1] h) = fnEnd [.t 4] (cd b189 E none ⟨setArgs 0 [x0, x1] .e, [], h⟩) := E_call rfl rfl rfl rfl rfl
theorem e190 (x0 x1 x2 : V) (h : Hp) : E (.call 190 [x0, x1, x2] h) = fnEnd [.t 6] (cd b190 E none ⟨setArgs 0 [x0, x1, x2] .e, [], h⟩) := E_call rfl rfl rfl rfl rfl
theorem e191 (x0 x1 : V) (h : Hp) : E (.call 191 [x0, x1] h) = fnEnd [] (cd b191 E none ⟨setArgs 0 [x0, x1] .e, [], h⟩) := E_call rfl rfl rfl rfl rfl
theorem e192 (x0 : V) (h : Hp) : E (.call 192 [x0] h) = fnEnd [.t 2] (cd b192 E none ⟨setArgs 0 [x0] .e, [], h⟩) := E_call rfl rfl rfl rfl rfl
theorem e194 (x0 : V) (h : Hp) : E (.call 194 [x0] h) = fnEnd [.t 2] (cd b194 E none ⟨setArgs 0 [x0] .e, [], h⟩) := E_call rfl rfl rfl rfl rfl
theorem e195 (x0 : V) (h : Hp) : E (.call 195 [x0] h) = fnEnd [.t 2] (cd b195 E none ⟨setArgs 0 [x0] .e, [], h⟩) := E_call rfl rfl rfl rfl rfl
theorem e196 (x0 : V) (h : Hp) : E (.call 196 [x0] h) = fnEnd [.t 2] (cd b196 E none ⟨setArgs 0 [x0] .e, [], h⟩) := E_call rfl rfl rfl rfl rfl
theorem e197 (x0 : V) (h : Hp) : E (.call 197 [x0] h) = fnEnd [.t 2] (cd b197 E none ⟨setArgs 0 [x0] .e, [], h⟩) := E_call rfl rfl rfl rfl rfl
theorem e198 (x0 x1 x2 : V) (h : Hp) : E (.call 198 [x0, x1, x2] h) = fnEnd [.t 6, .t 7] (cd b198 E none ⟨setArgs 0 [x0, x1, x2] .e, [], h⟩) := E_call rfl rfl rfl rfl rfl
theorem e201 (x0 x1 : V) (h : Hp) : E (.call 201 [x0, x1] h) = fnEnd [.t 4] (cd b201 E none ⟨setArgs 0 [x0, x1] .e, [], h⟩) := E_call rfl rfl rfl rfl rfl
theorem e203 (x0 : V) (h : Hp) : E (.call 203 [x0] h) = fnEnd [.t 2] (cd b203 E none ⟨setArgs 0 [x0] .e, [], h⟩) := E_call rfl rfl rfl rfl rfl
theorem e204 (x0 x1 : V) (h : Hp) : E (.call 204 [x0, x1] h) = fnEnd [.t 4] (cd b204 E none ⟨setArgs 0 [x0, x1] .e, [], h⟩) := E_call rfl rfl rfl rfl rfl
theorem e205 (x0 x1 : V) (h : Hp) : E (.call 205 [x0, x1] h) = fnEnd [.t 4] (cd b205 E none ⟨setArgs 0 [x0, x1] .e, [], h⟩) := E_call rfl rfl rfl rfl rfl
theorem e206 (x0 : V) (h : Hp) : E (.call 206 [x0] h) = fnEnd [.t 2] (cd b206 E none ⟨setArgs 0 [x0] .e, [], h⟩) := E_call rfl rfl rfl rfl rfl
theorem e207 (x0 x1 : V) (h : Hp) : E (.call 207 [x0, x1] h) = fnEnd [] (cd b207 E none ⟨setArgs 0 [x0, x1] .e, [], h⟩) := E_call rfl rfl rfl rfl rfl
theorem e208 (x0 : V) (h : Hp) : E (.call 208 [x0] h) = fnEnd [.t 2] (cd b208 E none ⟨setArgs 0 [x0] .e, [], h⟩) := E_call rfl rfl rfl rfl rfl
theorem e209 (x0 : V) (h : Hp) : E (.call 209 [x0] h) = fnEnd [.t 2] (cd b209 E none ⟨setArgs 0 [x0] .e, [], h⟩) := E_call rfl rfl rfl rfl rfl
theorem e210 (x0 : V) (h : Hp) : E (.call 210 [x0] h) = fnEnd [.t 2] (cd b210 E none ⟨setArgs 0 [x0] .e, [], h⟩) := E_call rfl rfl rfl rfl rfl
theorem e211 (x0 : V) (h : Hp) : E (.call 211 [x0] h) = fnEnd [.t 2] (cd b211 E none ⟨setArgs 0 [x0] .e, [], h⟩) := E_call rfl rfl rfl rfl rfl
theorem e213 (x0 : V) (h : Hp) : E (.call 213 [x0] h) = fnEnd [.t 2, .t 3] (cd b213 E none ⟨setArgs 0 [x0] .e, [], h⟩) := E_call rfl rfl rfl rfl rfl
end Go.Proofs.YtgnpoaoekhplhaaGreatDoor.AE.Tst
