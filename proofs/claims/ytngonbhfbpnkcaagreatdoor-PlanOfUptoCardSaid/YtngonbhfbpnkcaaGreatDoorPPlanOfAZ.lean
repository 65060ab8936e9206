
/- The law PlanOf: what its row says of the functions that are reached. -/
import Derived.Test.YtngonbhfbpnkcaaGreatDoorZ18
set_option linter.unusedVariables false
set_option linter.unusedSimpArgs false
namespace Go.Proofs.YtngonbhfbpnkcaaGreatDoor.K
open Go Go.AM Go.Proofs Go.RowKit
theorem planOf_h1 : (Rows.planOfUptoRow.inPlace == Tryz.prog.inPlace 11) = true := by kernel_rfl
theorem planOf_h2 : (Rows.planOfUptoRow.unfollowed == Tryz.prog.unfollowed 11) = true := by kernel_rfl
theorem planOf_h3 : (Rows.planOfUptoRow.recurses == Tryz.prog.recurses 11) = true := by kernel_rfl
theorem planOf_h4 : (Rows.planOfUptoRow.named == Tryz.prog.varsNamed 11) = true := by kernel_rfl
end Go.Proofs.YtngonbhfbpnkcaaGreatDoor.K
