/- A part of the proof that croupierlaw11.ModelKnown returns true (its last text says so). No condition of its own. -/
import Derived.Test.YtgnpoaoekhplhaaGreatDoorBase
import Derived.Test.YtgnpoaoekhplhaaGreatDoorChecked
import Derived.KernelRfl
set_option linter.unusedVariables false
set_option linter.unusedSimpArgs false
set_option linter.unusedSectionVars false
/- The printed code is what the program's functions compile to. -/
namespace Go.Proofs.YtgnpoaoekhplhaaGreatDoor.AE.Tst
open Go Go.Proofs.YtgnpoaoekhplhaaGreatDoor.AE Go.Proofs
set_option maxRecDepth 1000000
theorem c10 : fsOf Tryz.prog 10 = some f10 := by kernel_rfl
theorem c14 : fsOf Tryz.prog 14 = some f14 := by kernel_rfl
theorem c18 : fsOf Tryz.prog 18 = some f18 := by kernel_rfl
theorem c22 : fsOf Tryz.prog 22 = some f22 := by kernel_rfl
theorem c39 : fsOf Tryz.prog 39 = some f39 := by kernel_rfl
theorem c45 : fsOf Tryz.prog 45 = some f45 := by kernel_rfl
theorem c49 : fsOf Tryz.prog 49 = some f49 := by kernel_rfl
theorem c53 : fsOf Tryz.prog 53 = some f53 := by kernel_rfl
theorem c57 : fsOf Tryz.prog 57 = some f57 := by kernel_rfl
theorem c71 : fsOf Tryz.prog 71 = some f71 := by kernel_rfl
theorem c75 : fsOf Tryz.prog 75 = some f75 := by kernel_rfl
theorem c79 : fsOf Tryz.prog 79 = some f79 := by kernel_rfl
theorem c90 : fsOf Tryz.prog 90 = some f90 := by kernel_rfl
theorem c94 : fsOf Tryz.prog 94 = some f94 := by kernel_rfl
theorem c98 : fsOf Tryz.prog 98 = some f98 := by kernel_rfl
theorem c102 : fsOf Tryz.prog 102 = some f102 := by kernel_rfl
theorem c106 : fsOf Tryz.prog 106 = some f106 := by kernel_rfl
theorem c120 : fsOf Tryz.prog 120 = some f120 := by kernel_rfl
theorem c124 : fsOf Tryz.prog 124 = some f124 := by kernel_rfl
theorem c128 : fsOf Tryz.prog 128 = some f128 := by kernel_rfl
theorem c144 : fsOf Tryz.prog 144 = some f144 := by kernel_rfl
theorem c152 : fsOf Tryz.prog 152 = some f152 := by kernel_rfl
theorem c156 : fsOf Tryz.prog 156 = some f156 := by kernel_rfl
theorem c160 : fsOf Tryz.prog 160 = some f160 := by kernel_rfl
theorem c165 : fsOf Tryz.prog 165 = some f165 := by kernel_rfl
theorem c169 : fsOf Tryz.prog 169 = some f169 := by kernel_rfl
theorem c173 : fsOf Tryz.prog 173 = some f173 := by kernel_rfl
theorem c177 : fsOf Tryz.prog 177 = some f177 := by kernel_rfl
theorem c186 : fsOf Tryz.prog 186 = some f186 := by kernel_rfl
theorem c190 : fsOf Tryz.prog 190 = some f190 := by kernel_rfl
theorem c195 : fsOf Tryz.prog 195 = some f195 := by kernel_rfl
theorem c201 : fsOf Tryz.prog 201 = some f201 := by kernel_rfl
theorem c206 : fsOf Tryz.prog 206 = some f206 := by kernel_rfl
theorem c210 : fsOf Tryz.prog 210 = some f210 := by kernel_rfl
end Go.Proofs.YtgnpoaoekhplhaaGreatDoor.AE.Tst
