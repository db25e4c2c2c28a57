/- A part of the proof that croupierlaw11.ModelKnown returns true (its last text says so). No condition of its own. -/
import Derived.Test.YtgnpoaoekhplhaaGreatDoorBase
import Derived.Test.YtgnpoaoekhplhaaGreatDoorChecked
import Derived.KernelRfl
set_option linter.unusedVariables false
set_option linter.unusedSimpArgs false
set_option linter.unusedSectionVars false
/- The printed code is what the program's functions compile to. -/
namespace Go.Proofs.YtgnpoaoekhplhaaGreatDoor.AE.Tst
open Go Go.Proofs.YtgnpoaoekhplhaaGreatDoor.AE Go.Proofs
set_option maxRecDepth 1000000
theorem c9 : fsOf Tryz.prog 9 = some f9 := by kernel_rfl
theorem c13 : fsOf Tryz.prog 13 = some f13 := by kernel_rfl
theorem c17 : fsOf Tryz.prog 17 = some f17 := by kernel_rfl
theorem c21 : fsOf Tryz.prog 21 = some f21 := by kernel_rfl
theorem c25 : fsOf Tryz.prog 25 = some f25 := by kernel_rfl
theorem c44 : fsOf Tryz.prog 44 = some f44 := by kernel_rfl
theorem c48 : fsOf Tryz.prog 48 = some f48 := by kernel_rfl
theorem c52 : fsOf Tryz.prog 52 = some f52 := by kernel_rfl
theorem c56 : fsOf Tryz.prog 56 = some f56 := by kernel_rfl
theorem c70 : fsOf Tryz.prog 70 = some f70 := by kernel_rfl
theorem c74 : fsOf Tryz.prog 74 = some f74 := by kernel_rfl
theorem c78 : fsOf Tryz.prog 78 = some f78 := by kernel_rfl
theorem c89 : fsOf Tryz.prog 89 = some f89 := by kernel_rfl
theorem c93 : fsOf Tryz.prog 93 = some f93 := by kernel_rfl
theorem c97 : fsOf Tryz.prog 97 = some f97 := by kernel_rfl
theorem c101 : fsOf Tryz.prog 101 = some f101 := by kernel_rfl
theorem c105 : fsOf Tryz.prog 105 = some f105 := by kernel_rfl
theorem c119 : fsOf Tryz.prog 119 = some f119 := by kernel_rfl
theorem c123 : fsOf Tryz.prog 123 = some f123 := by kernel_rfl
theorem c127 : fsOf Tryz.prog 127 = some f127 := by kernel_rfl
theorem c143 : fsOf Tryz.prog 143 = some f143 := by kernel_rfl
theorem c149 : fsOf Tryz.prog 149 = some f149 := by kernel_rfl
theorem c155 : fsOf Tryz.prog 155 = some f155 := by kernel_rfl
theorem c159 : fsOf Tryz.prog 159 = some f159 := by kernel_rfl
theorem c164 : fsOf Tryz.prog 164 = some f164 := by kernel_rfl
theorem c168 : fsOf Tryz.prog 168 = some f168 := by kernel_rfl
theorem c172 : fsOf Tryz.prog 172 = some f172 := by kernel_rfl
theorem c176 : fsOf Tryz.prog 176 = some f176 := by kernel_rfl
theorem c185 : fsOf Tryz.prog 185 = some f185 := by kernel_rfl
theorem c189 : fsOf Tryz.prog 189 = some f189 := by kernel_rfl
theorem c194 : fsOf Tryz.prog 194 = some f194 := by kernel_rfl
theorem c198 : fsOf Tryz.prog 198 = some f198 := by kernel_rfl
theorem c205 : fsOf Tryz.prog 205 = some f205 := by kernel_rfl
theorem c209 : fsOf Tryz.prog 209 = some f209 := by kernel_rfl
end Go.Proofs.YtgnpoaoekhplhaaGreatDoor.AE.Tst
