
/- The law WeekLeast: further facts of its row. -/
import Derived.Test.YtiigdaohjanidaaGreatDoorI24
set_option linter.unusedVariables false
set_option linter.unusedSimpArgs false
namespace Go.Proofs.YtiigdaohjanidaaGreatDoor.K
open Go Go.AM Go.Proofs Go.RowKit
theorem weekLeast_k1 : Rows.weekLeastUptoRow.wfByText (Rows.OpenSpec.upto Rows.weekLeastSpec) = true := by kernel_rfl
theorem weekLeast_k2 : false = Rows.weekLeastUptoRow.goesBy Tryz.prog := by kernel_rfl
theorem weekLeast_k3 : Tryz.prog.funcNamed "lorry/lorrylaw59.WeekLeast" = some 4 := by kernel_rfl
theorem weekLeast_k4 : Tryz.prog.mainIs = some (true, "fc6ae7564400a4ccc495708dec3f5f6f0c5f670c02cb8027deb9d52430da8ae4".toList) := by kernel_rfl
theorem weekLeast_k5 : false = Tryz.prog.looks [] := by kernel_rfl
end Go.Proofs.YtiigdaohjanidaaGreatDoor.K
