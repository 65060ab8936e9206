
/- The law ReoptChecks: what its row says of the functions that are reached. -/
import Derived.Test.YtcpmilhkineciaaGreatDoorZ22
set_option linter.unusedVariables false
set_option linter.unusedSimpArgs false
namespace Go.Proofs.YtcpmilhkineciaaGreatDoor.K
open Go Go.AM Go.Proofs Go.RowKit
theorem reoptChecks_h1 : (Rows.reoptChecksUptoRow.inPlace == Tryz.prog.inPlace 7) = true := by kernel_rfl
theorem reoptChecks_h2 : (Rows.reoptChecksUptoRow.unfollowed == Tryz.prog.unfollowed 7) = true := by kernel_rfl
theorem reoptChecks_h3 : (Rows.reoptChecksUptoRow.recurses == Tryz.prog.recurses 7) = true := by kernel_rfl
theorem reoptChecks_h4 : (Rows.reoptChecksUptoRow.named == Tryz.prog.varsNamed 7) = true := by kernel_rfl
end Go.Proofs.YtcpmilhkineciaaGreatDoor.K
