/- A part of the proof that croupierlaw11.ModelKnown returns true (its last text says so). No condition of its own. -/
import Derived.Test.YtgnpoaoekhplhaaGreatDoorAn
set_option linter.unusedVariables false
set_option linter.unusedSimpArgs false
set_option linter.unusedSectionVars false
/- The chapter's examples hold. -/
namespace Go.Proofs.YtgnpoaoekhplhaaGreatDoor.AE.Tst
open Go Go.Proofs.YtgnpoaoekhplhaaGreatDoor.AE
set_option maxRecDepth 1000000
theorem works (t : Nat → Nat) : isT (ev fs11 tbw 10000 (.call 25 [] (laidH t 6 L11))) = true := by kernel_rfl
end Go.Proofs.YtgnpoaoekhplhaaGreatDoor.AE.Tst
