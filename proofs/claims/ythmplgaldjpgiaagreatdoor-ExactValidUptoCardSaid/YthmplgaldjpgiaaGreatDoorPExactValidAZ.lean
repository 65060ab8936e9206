
/- The law ExactValid: what its row says of the functions that are reached. -/
import Derived.Test.YthmplgaldjpgiaaGreatDoorZ19
set_option linter.unusedVariables false
set_option linter.unusedSimpArgs false
namespace Go.Proofs.YthmplgaldjpgiaaGreatDoor.K
open Go Go.AM Go.Proofs Go.RowKit
theorem exactValid_h1 : (Rows.exactValidUptoRow.inPlace == Tryz.prog.inPlace 5) = true := by kernel_rfl
theorem exactValid_h2 : (Rows.exactValidUptoRow.unfollowed == Tryz.prog.unfollowed 5) = true := by kernel_rfl
theorem exactValid_h3 : (Rows.exactValidUptoRow.recurses == Tryz.prog.recurses 5) = true := by kernel_rfl
theorem exactValid_h4 : (Rows.exactValidUptoRow.named == Tryz.prog.varsNamed 5) = true := by kernel_rfl
end Go.Proofs.YthmplgaldjpgiaaGreatDoor.K
