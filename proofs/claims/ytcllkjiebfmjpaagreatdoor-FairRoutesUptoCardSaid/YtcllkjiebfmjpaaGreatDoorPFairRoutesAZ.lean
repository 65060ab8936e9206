
/- The law FairRoutes: what its row says of the functions that are reached. -/
import Derived.Test.YtcllkjiebfmjpaaGreatDoorZ12
set_option linter.unusedVariables false
set_option linter.unusedSimpArgs false
namespace Go.Proofs.YtcllkjiebfmjpaaGreatDoor.K
open Go Go.AM Go.Proofs Go.RowKit
theorem fairRoutes_h1 : (Rows.fairRoutesUptoRow.inPlace == Tryz.prog.inPlace 8) = true := by kernel_rfl
theorem fairRoutes_h2 : (Rows.fairRoutesUptoRow.unfollowed == Tryz.prog.unfollowed 8) = true := by kernel_rfl
theorem fairRoutes_h3 : (Rows.fairRoutesUptoRow.recurses == Tryz.prog.recurses 8) = true := by kernel_rfl
theorem fairRoutes_h4 : (Rows.fairRoutesUptoRow.named == Tryz.prog.varsNamed 8) = true := by kernel_rfl
end Go.Proofs.YtcllkjiebfmjpaaGreatDoor.K
