
/- The law RemovePicks: what its row says of the functions that are reached. -/
import Derived.Test.YtcdoglogglbemaaGreatDoorZb17
set_option linter.unusedVariables false
set_option linter.unusedSimpArgs false
namespace Go.Proofs.YtcdoglogglbemaaGreatDoor.K
open Go Go.AM Go.Proofs Go.RowKit
theorem removePicks_h1 : (Rows.removePicksUptoRow.inPlace == Tryz.prog.inPlace 7) = true := by kernel_rfl
theorem removePicks_h2 : (Rows.removePicksUptoRow.unfollowed == Tryz.prog.unfollowed 7) = true := by kernel_rfl
theorem removePicks_h3 : (Rows.removePicksUptoRow.recurses == Tryz.prog.recurses 7) = true := by kernel_rfl
theorem removePicks_h4 : (Rows.removePicksUptoRow.named == Tryz.prog.varsNamed 7) = true := by kernel_rfl
end Go.Proofs.YtcdoglogglbemaaGreatDoor.K
