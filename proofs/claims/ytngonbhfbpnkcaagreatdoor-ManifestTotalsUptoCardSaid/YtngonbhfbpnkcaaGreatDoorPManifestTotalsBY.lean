
/- The law ManifestTotals: further facts of its row. -/
import Derived.Test.YtngonbhfbpnkcaaGreatDoorY18
set_option linter.unusedVariables false
set_option linter.unusedSimpArgs false
namespace Go.Proofs.YtngonbhfbpnkcaaGreatDoor.K
open Go Go.AM Go.Proofs Go.RowKit
theorem manifestTotals_k1 : Rows.manifestTotalsUptoRow.wfByText (Rows.OpenSpec.upto Rows.manifestTotalsSpec) = true := by kernel_rfl
theorem manifestTotals_k2 : false = Rows.manifestTotalsUptoRow.goesBy Tryz.prog := by kernel_rfl
theorem manifestTotals_k3 : Tryz.prog.funcNamed "lorry/lorrylaw58.ManifestTotals" = some 5 := by kernel_rfl
theorem manifestTotals_k4 : Tryz.prog.mainIs = some (true, "724531d32426ce654e7285be7fbb7bbb0ff51425ea23325b0915c31279d6a94b".toList) := by kernel_rfl
theorem manifestTotals_k5 : true = Tryz.prog.looks [] := by kernel_rfl
end Go.Proofs.YtngonbhfbpnkcaaGreatDoor.K
