
/- The law ReoptKeeps: further facts of its row. -/
import Derived.Test.YtiigdaohjanidaaGreatDoorP26
set_option linter.unusedVariables false
set_option linter.unusedSimpArgs false
namespace Go.Proofs.YtiigdaohjanidaaGreatDoor.K
open Go Go.AM Go.Proofs Go.RowKit
theorem reoptKeeps_k1 : Rows.reoptKeepsUptoRow.wfByText (Rows.OpenSpec.upto Rows.reoptKeepsSpec) = true := by kernel_rfl
theorem reoptKeeps_k2 : false = Rows.reoptKeepsUptoRow.goesBy Tryz.prog := by kernel_rfl
theorem reoptKeeps_k3 : Tryz.prog.funcNamed "lorry/lorrylaw48.ReoptKeeps" = some 7 := by kernel_rfl
theorem reoptKeeps_k4 : Tryz.prog.mainIs = some (true, "fc6ae7564400a4ccc495708dec3f5f6f0c5f670c02cb8027deb9d52430da8ae4".toList) := by kernel_rfl
theorem reoptKeeps_k5 : false = Tryz.prog.looks [] := by kernel_rfl
end Go.Proofs.YtiigdaohjanidaaGreatDoor.K
