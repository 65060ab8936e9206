
/- The law RemoveChooses: further facts of its row. -/
import Derived.Test.YtcdoglogglbemaaGreatDoorZa17
set_option linter.unusedVariables false
set_option linter.unusedSimpArgs false
namespace Go.Proofs.YtcdoglogglbemaaGreatDoor.K
open Go Go.AM Go.Proofs Go.RowKit
theorem removeChooses_k1 : Rows.removeChoosesUptoRow.wfByText (Rows.OpenSpec.upto Rows.removeChoosesSpec) = true := by kernel_rfl
theorem removeChooses_k2 : false = Rows.removeChoosesUptoRow.goesBy Tryz.prog := by kernel_rfl
theorem removeChooses_k3 : Tryz.prog.funcNamed "lorry/lorrylaw42.RemoveChooses" = some 5 := by kernel_rfl
theorem removeChooses_k4 : Tryz.prog.mainIs = some (true, "24d26ef79c81d03697112dd31db44e49fbcbcace4f1341fd48d75ffd43531fcd".toList) := by kernel_rfl
theorem removeChooses_k5 : false = Tryz.prog.looks [] := by kernel_rfl
end Go.Proofs.YtcdoglogglbemaaGreatDoor.K
