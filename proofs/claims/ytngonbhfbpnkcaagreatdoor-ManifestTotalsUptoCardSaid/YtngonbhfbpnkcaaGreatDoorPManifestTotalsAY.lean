
/- The law ManifestTotals: what its row says of the functions that are reached. -/
import Derived.Test.YtngonbhfbpnkcaaGreatDoorY18
set_option linter.unusedVariables false
set_option linter.unusedSimpArgs false
namespace Go.Proofs.YtngonbhfbpnkcaaGreatDoor.K
open Go Go.AM Go.Proofs Go.RowKit
theorem manifestTotals_h1 : (Rows.manifestTotalsUptoRow.inPlace == Tryz.prog.inPlace 5) = true := by kernel_rfl
theorem manifestTotals_h2 : (Rows.manifestTotalsUptoRow.unfollowed == Tryz.prog.unfollowed 5) = true := by kernel_rfl
theorem manifestTotals_h3 : (Rows.manifestTotalsUptoRow.recurses == Tryz.prog.recurses 5) = true := by kernel_rfl
theorem manifestTotals_h4 : (Rows.manifestTotalsUptoRow.named == Tryz.prog.varsNamed 5) = true := by kernel_rfl
end Go.Proofs.YtngonbhfbpnkcaaGreatDoor.K
