
/- The law ExactLeast: what its row says of the functions that are reached. -/
import Derived.Test.YthmplgaldjpgiaaGreatDoorZ19
set_option linter.unusedVariables false
set_option linter.unusedSimpArgs false
namespace Go.Proofs.YthmplgaldjpgiaaGreatDoor.K
open Go Go.AM Go.Proofs Go.RowKit
theorem exactLeast_h1 : (Rows.exactLeastUptoRow.inPlace == Tryz.prog.inPlace 4) = true := by kernel_rfl
theorem exactLeast_h2 : (Rows.exactLeastUptoRow.unfollowed == Tryz.prog.unfollowed 4) = true := by kernel_rfl
theorem exactLeast_h3 : (Rows.exactLeastUptoRow.recurses == Tryz.prog.recurses 4) = true := by kernel_rfl
theorem exactLeast_h4 : (Rows.exactLeastUptoRow.named == Tryz.prog.varsNamed 4) = true := by kernel_rfl
end Go.Proofs.YthmplgaldjpgiaaGreatDoor.K
