
/- The law ExactSolves: what its row says of the functions that are reached. -/
import Derived.Test.YthmplgaldjpgiaaGreatDoorZ17
set_option linter.unusedVariables false
set_option linter.unusedSimpArgs false
namespace Go.Proofs.YthmplgaldjpgiaaGreatDoor.K
open Go Go.AM Go.Proofs Go.RowKit
theorem exactSolves_h1 : (Rows.exactSolvesUptoRow.inPlace == Tryz.prog.inPlace 3) = true := by kernel_rfl
theorem exactSolves_h2 : (Rows.exactSolvesUptoRow.unfollowed == Tryz.prog.unfollowed 3) = true := by kernel_rfl
theorem exactSolves_h3 : (Rows.exactSolvesUptoRow.recurses == Tryz.prog.recurses 3) = true := by kernel_rfl
theorem exactSolves_h4 : (Rows.exactSolvesUptoRow.named == Tryz.prog.varsNamed 3) = true := by kernel_rfl
end Go.Proofs.YthmplgaldjpgiaaGreatDoor.K
