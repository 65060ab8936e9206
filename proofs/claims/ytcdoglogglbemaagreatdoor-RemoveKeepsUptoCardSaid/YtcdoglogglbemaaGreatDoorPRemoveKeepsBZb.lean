
/- The law RemoveKeeps: further facts of its row. -/
import Derived.Test.YtcdoglogglbemaaGreatDoorZb17
set_option linter.unusedVariables false
set_option linter.unusedSimpArgs false
namespace Go.Proofs.YtcdoglogglbemaaGreatDoor.K
open Go Go.AM Go.Proofs Go.RowKit
theorem removeKeeps_k1 : Rows.removeKeepsUptoRow.wfByText (Rows.OpenSpec.upto Rows.removeKeepsSpec) = true := by kernel_rfl
theorem removeKeeps_k2 : false = Rows.removeKeepsUptoRow.goesBy Tryz.prog := by kernel_rfl
theorem removeKeeps_k3 : Tryz.prog.funcNamed "lorry/lorrylaw42.RemoveKeeps" = some 6 := by kernel_rfl
theorem removeKeeps_k4 : Tryz.prog.mainIs = some (true, "24d26ef79c81d03697112dd31db44e49fbcbcace4f1341fd48d75ffd43531fcd".toList) := by kernel_rfl
theorem removeKeeps_k5 : false = Tryz.prog.looks [] := by kernel_rfl
end Go.Proofs.YtcdoglogglbemaaGreatDoor.K
