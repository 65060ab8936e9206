
/- The law ExactChooses: further facts of its row. -/
import Derived.Test.YtkhgmjdijnmhbaaDoorZ14
set_option linter.unusedVariables false
set_option linter.unusedSimpArgs false
namespace Go.Proofs.YtkhgmjdijnmhbaaDoor.K
open Go Go.AM Go.Proofs Go.RowKit
theorem exactChooses_k1 : Rows.exactChoosesUptoRow.wfByText (Rows.OpenSpec.upto Rows.exactChoosesSpec) = true := by kernel_rfl
theorem exactChooses_k2 : false = Rows.exactChoosesUptoRow.goesBy Tryd.prog := by kernel_rfl
theorem exactChooses_k3 : Tryd.prog.funcNamed "lorry/lorrylaw24.ExactChooses" = some 3 := by kernel_rfl
theorem exactChooses_k4 : Tryd.prog.mainIs = some (true, "8d5be9367201bbb85ddf76a9b658a2f3ac00d60fd86442c11144f9e9d90e5188".toList) := by kernel_rfl
theorem exactChooses_k5 : false = Tryd.prog.looks [] := by kernel_rfl
end Go.Proofs.YtkhgmjdijnmhbaaDoor.K
