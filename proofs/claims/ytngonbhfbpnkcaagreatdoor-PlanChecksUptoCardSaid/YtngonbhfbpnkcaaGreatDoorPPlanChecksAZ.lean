
/- The law PlanChecks: what its row says of the functions that are reached. -/
import Derived.Test.YtngonbhfbpnkcaaGreatDoorZ18
set_option linter.unusedVariables false
set_option linter.unusedSimpArgs false
namespace Go.Proofs.YtngonbhfbpnkcaaGreatDoor.K
open Go Go.AM Go.Proofs Go.RowKit
theorem planChecks_h1 : (Rows.planChecksUptoRow.inPlace == Tryz.prog.inPlace 12) = true := by kernel_rfl
theorem planChecks_h2 : (Rows.planChecksUptoRow.unfollowed == Tryz.prog.unfollowed 12) = true := by kernel_rfl
theorem planChecks_h3 : (Rows.planChecksUptoRow.recurses == Tryz.prog.recurses 12) = true := by kernel_rfl
theorem planChecks_h4 : (Rows.planChecksUptoRow.named == Tryz.prog.varsNamed 12) = true := by kernel_rfl
end Go.Proofs.YtngonbhfbpnkcaaGreatDoor.K
