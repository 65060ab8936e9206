
/- The law ExactOrder: further facts of its row. -/
import Derived.Test.YtkhgmjdijnmhbaaDoorZ14
set_option linter.unusedVariables false
set_option linter.unusedSimpArgs false
namespace Go.Proofs.YtkhgmjdijnmhbaaDoor.K
open Go Go.AM Go.Proofs Go.RowKit
theorem exactOrder_k1 : Rows.exactOrderUptoRow.wfByText (Rows.OpenSpec.upto Rows.exactOrderSpec) = true := by kernel_rfl
theorem exactOrder_k2 : false = Rows.exactOrderUptoRow.goesBy Tryd.prog := by kernel_rfl
theorem exactOrder_k3 : Tryd.prog.funcNamed "lorry/lorrylaw24.ExactOrder" = some 4 := by kernel_rfl
theorem exactOrder_k4 : Tryd.prog.mainIs = some (true, "8d5be9367201bbb85ddf76a9b658a2f3ac00d60fd86442c11144f9e9d90e5188".toList) := by kernel_rfl
theorem exactOrder_k5 : false = Tryd.prog.looks [] := by kernel_rfl
end Go.Proofs.YtkhgmjdijnmhbaaDoor.K
