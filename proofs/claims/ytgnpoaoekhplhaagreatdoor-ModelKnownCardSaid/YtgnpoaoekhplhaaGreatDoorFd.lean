/- A part of the proof that croupierlaw11.ModelKnown returns true (its last text says so). No condition of its own. -/
import Derived.Test.YtgnpoaoekhplhaaGreatDoorBase
import Derived.Test.YtgnpoaoekhplhaaGreatDoorChecked
import Derived.KernelRfl
set_option linter.unusedVariables false
set_option linter.unusedSimpArgs false
set_option linter.unusedSectionVars false
/- The printed code is what the program's functions compile to. -/
namespace Go.Proofs.YtgnpoaoekhplhaaGreatDoor.AE.Tst
open Go Go.Proofs.YtgnpoaoekhplhaaGreatDoor.AE Go.Proofs
set_option maxRecDepth 1000000
theorem c11 : fsOf Tryz.prog 11 = some f11 := by kernel_rfl
theorem c15 : fsOf Tryz.prog 15 = some f15 := by kernel_rfl
theorem c19 : fsOf Tryz.prog 19 = some f19 := by kernel_rfl
theorem c23 : fsOf Tryz.prog 23 = some f23 := by kernel_rfl
theorem c41 : fsOf Tryz.prog 41 = some f41 := by kernel_rfl
theorem c46 : fsOf Tryz.prog 46 = some f46 := by kernel_rfl
theorem c50 : fsOf Tryz.prog 50 = some f50 := by kernel_rfl
theorem c54 : fsOf Tryz.prog 54 = some f54 := by kernel_rfl
theorem c58 : fsOf Tryz.prog 58 = some f58 := by kernel_rfl
theorem c72 : fsOf Tryz.prog 72 = some f72 := by kernel_rfl
theorem c76 : fsOf Tryz.prog 76 = some f76 := by kernel_rfl
theorem c80 : fsOf Tryz.prog 80 = some f80 := by kernel_rfl
theorem c91 : fsOf Tryz.prog 91 = some f91 := by kernel_rfl
theorem c95 : fsOf Tryz.prog 95 = some f95 := by kernel_rfl
theorem c99 : fsOf Tryz.prog 99 = some f99 := by kernel_rfl
theorem c103 : fsOf Tryz.prog 103 = some f103 := by kernel_rfl
theorem c107 : fsOf Tryz.prog 107 = some f107 := by kernel_rfl
theorem c121 : fsOf Tryz.prog 121 = some f121 := by kernel_rfl
theorem c125 : fsOf Tryz.prog 125 = some f125 := by kernel_rfl
theorem c132 : fsOf Tryz.prog 132 = some f132 := by kernel_rfl
theorem c145 : fsOf Tryz.prog 145 = some f145 := by kernel_rfl
theorem c153 : fsOf Tryz.prog 153 = some f153 := by kernel_rfl
theorem c157 : fsOf Tryz.prog 157 = some f157 := by kernel_rfl
theorem c161 : fsOf Tryz.prog 161 = some f161 := by kernel_rfl
theorem c166 : fsOf Tryz.prog 166 = some f166 := by kernel_rfl
theorem c170 : fsOf Tryz.prog 170 = some f170 := by kernel_rfl
theorem c174 : fsOf Tryz.prog 174 = some f174 := by kernel_rfl
theorem c178 : fsOf Tryz.prog 178 = some f178 := by kernel_rfl
theorem c187 : fsOf Tryz.prog 187 = some f187 := by kernel_rfl
theorem c191 : fsOf Tryz.prog 191 = some f191 := by kernel_rfl
theorem c196 : fsOf Tryz.prog 196 = some f196 := by kernel_rfl
theorem c203 : fsOf Tryz.prog 203 = some f203 := by kernel_rfl
theorem c207 : fsOf Tryz.prog 207 = some f207 := by kernel_rfl
theorem c211 : fsOf Tryz.prog 211 = some f211 := by kernel_rfl
end Go.Proofs.YtgnpoaoekhplhaaGreatDoor.AE.Tst
