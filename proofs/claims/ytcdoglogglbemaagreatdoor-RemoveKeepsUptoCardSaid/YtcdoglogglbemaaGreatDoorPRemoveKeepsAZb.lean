
/- The law RemoveKeeps: what its row says of the functions that are reached. -/
import Derived.Test.YtcdoglogglbemaaGreatDoorZb17
set_option linter.unusedVariables false
set_option linter.unusedSimpArgs false
namespace Go.Proofs.YtcdoglogglbemaaGreatDoor.K
open Go Go.AM Go.Proofs Go.RowKit
theorem removeKeeps_h1 : (Rows.removeKeepsUptoRow.inPlace == Tryz.prog.inPlace 6) = true := by kernel_rfl
theorem removeKeeps_h2 : (Rows.removeKeepsUptoRow.unfollowed == Tryz.prog.unfollowed 6) = true := by kernel_rfl
theorem removeKeeps_h3 : (Rows.removeKeepsUptoRow.recurses == Tryz.prog.recurses 6) = true := by kernel_rfl
theorem removeKeeps_h4 : (Rows.removeKeepsUptoRow.named == Tryz.prog.varsNamed 6) = true := by kernel_rfl
end Go.Proofs.YtcdoglogglbemaaGreatDoor.K
