
/- The law RemoveSaves: what its row says of the functions that are reached. -/
import Derived.Test.YtcdoglogglbemaaGreatDoorZa17
set_option linter.unusedVariables false
set_option linter.unusedSimpArgs false
namespace Go.Proofs.YtcdoglogglbemaaGreatDoor.K
open Go Go.AM Go.Proofs Go.RowKit
theorem removeSaves_h1 : (Rows.removeSavesUptoRow.inPlace == Tryz.prog.inPlace 4) = true := by kernel_rfl
theorem removeSaves_h2 : (Rows.removeSavesUptoRow.unfollowed == Tryz.prog.unfollowed 4) = true := by kernel_rfl
theorem removeSaves_h3 : (Rows.removeSavesUptoRow.recurses == Tryz.prog.recurses 4) = true := by kernel_rfl
theorem removeSaves_h4 : (Rows.removeSavesUptoRow.named == Tryz.prog.varsNamed 4) = true := by kernel_rfl
end Go.Proofs.YtcdoglogglbemaaGreatDoor.K
