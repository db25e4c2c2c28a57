/- A part of the proof that croupierlaw11.ModelKnown returns true (its last text says so). No condition of its own. -/
import Derived.Test.YtgnpoaoekhplhaaGreatDoorBase
import Derived.Test.YtgnpoaoekhplhaaGreatDoorChecked
import Derived.KernelRfl
set_option linter.unusedVariables false
set_option linter.unusedSimpArgs false
set_option linter.unusedSectionVars false
/- The printed code is what the program's functions compile to. -/
namespace Go.Proofs.YtgnpoaoekhplhaaGreatDoor.AE.Tst
open Go Go.Proofs.YtgnpoaoekhplhaaGreatDoor.AE Go.Proofs
set_option maxRecDepth 1000000
theorem c3 : fsOf Tryz.prog 3 = some f3 := by kernel_rfl
theorem c12 : fsOf Tryz.prog 12 = some f12 := by kernel_rfl
theorem c16 : fsOf Tryz.prog 16 = some f16 := by kernel_rfl
theorem c20 : fsOf Tryz.prog 20 = some f20 := by kernel_rfl
theorem c24 : fsOf Tryz.prog 24 = some f24 := by kernel_rfl
theorem c42 : fsOf Tryz.prog 42 = some f42 := by kernel_rfl
theorem c47 : fsOf Tryz.prog 47 = some f47 := by kernel_rfl
theorem c51 : fsOf Tryz.prog 51 = some f51 := by kernel_rfl
theorem c55 : fsOf Tryz.prog 55 = some f55 := by kernel_rfl
theorem c68 : fsOf Tryz.prog 68 = some f68 := by kernel_rfl
theorem c73 : fsOf Tryz.prog 73 = some f73 := by kernel_rfl
theorem c77 : fsOf Tryz.prog 77 = some f77 := by kernel_rfl
theorem c81 : fsOf Tryz.prog 81 = some f81 := by kernel_rfl
theorem c92 : fsOf Tryz.prog 92 = some f92 := by kernel_rfl
theorem c96 : fsOf Tryz.prog 96 = some f96 := by kernel_rfl
theorem c100 : fsOf Tryz.prog 100 = some f100 := by kernel_rfl
theorem c104 : fsOf Tryz.prog 104 = some f104 := by kernel_rfl
theorem c118 : fsOf Tryz.prog 118 = some f118 := by kernel_rfl
theorem c122 : fsOf Tryz.prog 122 = some f122 := by kernel_rfl
theorem c126 : fsOf Tryz.prog 126 = some f126 := by kernel_rfl
theorem c142 : fsOf Tryz.prog 142 = some f142 := by kernel_rfl
theorem c146 : fsOf Tryz.prog 146 = some f146 := by kernel_rfl
theorem c154 : fsOf Tryz.prog 154 = some f154 := by kernel_rfl
theorem c158 : fsOf Tryz.prog 158 = some f158 := by kernel_rfl
theorem c162 : fsOf Tryz.prog 162 = some f162 := by kernel_rfl
theorem c167 : fsOf Tryz.prog 167 = some f167 := by kernel_rfl
theorem c171 : fsOf Tryz.prog 171 = some f171 := by kernel_rfl
theorem c175 : fsOf Tryz.prog 175 = some f175 := by kernel_rfl
theorem c184 : fsOf Tryz.prog 184 = some f184 := by kernel_rfl
theorem c188 : fsOf Tryz.prog 188 = some f188 := by kernel_rfl
theorem c192 : fsOf Tryz.prog 192 = some f192 := by kernel_rfl
theorem c197 : fsOf Tryz.prog 197 = some f197 := by kernel_rfl
theorem c204 : fsOf Tryz.prog 204 = some f204 := by kernel_rfl
theorem c208 : fsOf Tryz.prog 208 = some f208 := by kernel_rfl
theorem c213 : fsOf Tryz.prog 213 = some f213 := by kernel_rfl
end Go.Proofs.YtgnpoaoekhplhaaGreatDoor.AE.Tst
