/- A part of the proof that croupierlaw11.ModelKnown returns true (its last text says so). No condition of its own. -/
import Derived.Test.YtgnpoaoekhplhaaGreatDoorWk
import Derived.Test.YtgnpoaoekhplhaaGreatDoorPc
set_option linter.unusedVariables false
set_option linter.unusedSimpArgs false
set_option linter.unusedSectionVars false
/- The closed law. -/
namespace Go.Proofs.YtgnpoaoekhplhaaGreatDoor.AE.Tst
open Go Go.Proofs.YtgnpoaoekhplhaaGreatDoor.AE
set_option maxRecDepth 1000000
def AW : List Ans := [(25, [], .b true)]
noncomputable def tbK : Tab := tbA L11 (fun f => Nat.beq f 25) AW tbM
theorem known (t : Nat → Nat) : isT (ev fs11 tbK 10000 (.call 3 [] (laidH t 6 L11))) = true := by kernel_rfl
end Go.Proofs.YtgnpoaoekhplhaaGreatDoor.AE.Tst
