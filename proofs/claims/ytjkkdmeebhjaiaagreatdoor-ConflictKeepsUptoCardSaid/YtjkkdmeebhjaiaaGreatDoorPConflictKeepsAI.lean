
/- The law ConflictKeeps: what its row says of the functions that are reached. -/
import Derived.Test.YtjkkdmeebhjaiaaGreatDoorI18
set_option linter.unusedVariables false
set_option linter.unusedSimpArgs false
namespace Go.Proofs.YtjkkdmeebhjaiaaGreatDoor.K
open Go Go.AM Go.Proofs Go.RowKit
theorem conflictKeeps_h1 : (Rows.conflictKeepsUptoRow.inPlace == Tryz.prog.inPlace 3) = true := by kernel_rfl
theorem conflictKeeps_h2 : (Rows.conflictKeepsUptoRow.unfollowed == Tryz.prog.unfollowed 3) = true := by kernel_rfl
theorem conflictKeeps_h3 : (Rows.conflictKeepsUptoRow.recurses == Tryz.prog.recurses 3) = true := by kernel_rfl
theorem conflictKeeps_h4 : (Rows.conflictKeepsUptoRow.named == Tryz.prog.varsNamed 3) = true := by kernel_rfl
end Go.Proofs.YtjkkdmeebhjaiaaGreatDoor.K
