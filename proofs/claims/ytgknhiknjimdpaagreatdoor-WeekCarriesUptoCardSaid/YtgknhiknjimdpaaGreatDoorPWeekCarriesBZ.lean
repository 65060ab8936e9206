
/- The law WeekCarries: further facts of its row. -/
import Derived.Test.YtgknhiknjimdpaaGreatDoorZ21
set_option linter.unusedVariables false
set_option linter.unusedSimpArgs false
namespace Go.Proofs.YtgknhiknjimdpaaGreatDoor.K
open Go Go.AM Go.Proofs Go.RowKit
theorem weekCarries_k1 : Rows.weekCarriesUptoRow.wfByText (Rows.OpenSpec.upto Rows.weekCarriesSpec) = true := by kernel_rfl
theorem weekCarries_k2 : false = Rows.weekCarriesUptoRow.goesBy Tryz.prog := by kernel_rfl
theorem weekCarries_k3 : Tryz.prog.funcNamed "lorry/lorrylaw59.WeekCarries" = some 3 := by kernel_rfl
theorem weekCarries_k4 : Tryz.prog.mainIs = some (true, "3898d2af7178e41d210d0ade5173cbbce815fdbadb69ba2be7effd11b6b2e3f4".toList) := by kernel_rfl
theorem weekCarries_k5 : false = Tryz.prog.looks [] := by kernel_rfl
end Go.Proofs.YtgknhiknjimdpaaGreatDoor.K
