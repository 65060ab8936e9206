
/- The law ConflictChecks: what its row says of the functions that are reached. -/
import Derived.Test.YtjkkdmeebhjaiaaGreatDoorZ19
set_option linter.unusedVariables false
set_option linter.unusedSimpArgs false
namespace Go.Proofs.YtjkkdmeebhjaiaaGreatDoor.K
open Go Go.AM Go.Proofs Go.RowKit
theorem conflictChecks_h1 : (Rows.conflictChecksUptoRow.inPlace == Tryz.prog.inPlace 4) = true := by kernel_rfl
theorem conflictChecks_h2 : (Rows.conflictChecksUptoRow.unfollowed == Tryz.prog.unfollowed 4) = true := by kernel_rfl
theorem conflictChecks_h3 : (Rows.conflictChecksUptoRow.recurses == Tryz.prog.recurses 4) = true := by kernel_rfl
theorem conflictChecks_h4 : (Rows.conflictChecksUptoRow.named == Tryz.prog.varsNamed 4) = true := by kernel_rfl
end Go.Proofs.YtjkkdmeebhjaiaaGreatDoor.K
