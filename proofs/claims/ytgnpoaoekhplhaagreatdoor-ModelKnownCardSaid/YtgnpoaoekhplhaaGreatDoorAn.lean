/- A part of the proof that croupierlaw11.ModelKnown returns true (its last text says so). No condition of its own. -/
import Derived.Test.YtgnpoaoekhplhaaGreatDoorBase
import Derived.KernelRfl
set_option linter.unusedVariables false
set_option linter.unusedSimpArgs false
set_option linter.unusedSectionVars false
/- What model.small answers at the texts of the chapter's examples. -/
namespace Go.Proofs.YtgnpoaoekhplhaaGreatDoor.AE.Tst
open Go Go.Proofs.YtgnpoaoekhplhaaGreatDoor.AE
set_option maxRecDepth 1000000
noncomputable def isAns (v : V) : Option Res → Bool
  | some (.val x _) => V.beq x v
  | _ => false
noncomputable def isT : Option Res → Bool
  | some (.val (.b x) _) => x
  | _ => false
theorem a0 (t : Nat → Nat) : isAns (.tu [.i .i64 (.ofNat 0), .i .i64 (.ofNat 1), .b true]) (ev fs11 tbx 1000 (.call 95 [.s [48]] (laidH t 6 L11))) = true := by kernel_rfl
theorem a1 (t : Nat → Nat) : isAns (.tu [.i .i64 (.ofNat 1), .i .i64 (.ofNat 1), .b true]) (ev fs11 tbx 1000 (.call 95 [.s [49]] (laidH t 6 L11))) = true := by kernel_rfl
theorem a2 (t : Nat → Nat) : isAns (.tu [.i .i64 (.ofNat 1), .i .i64 (.ofNat 3), .b true]) (ev fs11 tbx 1000 (.call 95 [.s [49, 47, 51]] (laidH t 6 L11))) = true := by kernel_rfl
theorem a3 (t : Nat → Nat) : isAns (.tu [.i .i64 (.ofNat 1), .i .i64 (.ofNat 2), .b true]) (ev fs11 tbx 1000 (.call 95 [.s [49, 47, 50]] (laidH t 6 L11))) = true := by kernel_rfl
theorem a4 (t : Nat → Nat) : isAns (.tu [.i .i64 (.ofNat 9999), .i .i64 (.ofNat 1), .b true]) (ev fs11 tbx 1000 (.call 95 [.s [57, 57, 57, 57]] (laidH t 6 L11))) = true := by kernel_rfl
theorem a5 (t : Nat → Nat) : isAns (.tu [.i .i64 (.ofNat 1), .i .i64 (.ofNat 9999), .b true]) (ev fs11 tbx 1000 (.call 95 [.s [49, 47, 57, 57, 57, 57]] (laidH t 6 L11))) = true := by kernel_rfl
theorem a6 (t : Nat → Nat) : isAns (.tu [.i .i64 (.ofNat 1), .i .i64 (.ofNat 99), .b true]) (ev fs11 tbx 1000 (.call 95 [.s [49, 47, 57, 57]] (laidH t 6 L11))) = true := by kernel_rfl
theorem a7 (t : Nat → Nat) : isAns (.tu [.i .i64 (.ofNat 1), .i .i64 (.ofNat 101), .b true]) (ev fs11 tbx 1000 (.call 95 [.s [49, 47, 49, 48, 49]] (laidH t 6 L11))) = true := by kernel_rfl
theorem a8 (t : Nat → Nat) : isAns (.tu [.i .i64 (.ofNat 9998), .i .i64 (.ofNat 9999), .b true]) (ev fs11 tbx 1000 (.call 95 [.s [57, 57, 57, 56, 47, 57, 57, 57, 57]] (laidH t 6 L11))) = true := by kernel_rfl
theorem a9 (t : Nat → Nat) : isAns (.tu [.i .i64 (.ofNat 0), .i .i64 (.ofNat 0), .b false]) (ev fs11 tbx 1000 (.call 95 [.s [49, 48, 48, 48, 48]] (laidH t 6 L11))) = true := by kernel_rfl
theorem a10 (t : Nat → Nat) : isAns (.tu [.i .i64 (.ofNat 0), .i .i64 (.ofNat 0), .b false]) (ev fs11 tbx 1000 (.call 95 [.s [49, 47, 49, 48, 48, 48, 48]] (laidH t 6 L11))) = true := by kernel_rfl
theorem a11 (t : Nat → Nat) : isAns (.tu [.i .i64 (.ofNat 1), .i .i64 (.ofNat 100), .b true]) (ev fs11 tbx 1000 (.call 95 [.s [49, 47, 49, 48, 48]] (laidH t 6 L11))) = true := by kernel_rfl
theorem a12 (t : Nat → Nat) : isAns (.tu [.i .i64 (.ofNat 0), .i .i64 (.ofNat 0), .b false]) (ev fs11 tbx 1000 (.call 95 [.s []] (laidH t 6 L11))) = true := by kernel_rfl
theorem a13 (t : Nat → Nat) : isAns (.tu [.i .i64 (.ofNat 0), .i .i64 (.ofNat 0), .b false]) (ev fs11 tbx 1000 (.call 95 [.s [48, 47, 49]] (laidH t 6 L11))) = true := by kernel_rfl
theorem a14 (t : Nat → Nat) : isAns (.tu [.i .i64 (.ofNat 3), .i .i64 (.ofNat 2), .b true]) (ev fs11 tbx 1000 (.call 95 [.s [51, 47, 50]] (laidH t 6 L11))) = true := by kernel_rfl
theorem a15 (t : Nat → Nat) : isAns (.tu [.i .i64 (.negSucc 0), .i .i64 (.ofNat 2), .b true]) (ev fs11 tbx 1000 (.call 95 [.s [45, 49, 47, 50]] (laidH t 6 L11))) = true := by kernel_rfl
theorem a16 (t : Nat → Nat) : isAns (.tu [.i .i64 (.ofNat 0), .i .i64 (.ofNat 0), .b false]) (ev fs11 tbx 1000 (.call 95 [.s [48, 46, 53]] (laidH t 6 L11))) = true := by kernel_rfl
theorem a17 (t : Nat → Nat) : isAns (.tu [.i .i64 (.negSucc 0), .i .i64 (.ofNat 1), .b true]) (ev fs11 tbx 1000 (.call 95 [.s [45, 49]] (laidH t 6 L11))) = true := by kernel_rfl
theorem a18 (t : Nat → Nat) : isAns (.tu [.i .i64 (.ofNat 0), .i .i64 (.ofNat 0), .b false]) (ev fs11 tbx 1000 (.call 95 [.s [50, 47, 54]] (laidH t 6 L11))) = true := by kernel_rfl
/-- All of them. -/
theorem ans_all (t : Nat → Nat) : ∀ a ∈ A11, isAns a.2.2 (ev fs11 tbx 1000 (.call a.1 a.2.1 (laidH t 6 L11))) = true := by
  intro a ha
  simp only [A11, List.mem_cons, List.not_mem_nil, or_false] at ha
  rcases ha with rfl | rfl | rfl | rfl | rfl | rfl | rfl | rfl | rfl | rfl | rfl | rfl | rfl | rfl | rfl | rfl | rfl | rfl | rfl
  · exact a0 t
  · exact a1 t
  · exact a2 t
  · exact a3 t
  · exact a4 t
  · exact a5 t
  · exact a6 t
  · exact a7 t
  · exact a8 t
  · exact a9 t
  · exact a10 t
  · exact a11 t
  · exact a12 t
  · exact a13 t
  · exact a14 t
  · exact a15 t
  · exact a16 t
  · exact a17 t
  · exact a18 t
end Go.Proofs.YtgnpoaoekhplhaaGreatDoor.AE.Tst
