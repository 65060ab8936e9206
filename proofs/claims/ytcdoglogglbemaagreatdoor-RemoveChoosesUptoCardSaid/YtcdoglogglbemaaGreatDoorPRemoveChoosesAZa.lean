
/- The law RemoveChooses: what its row says of the functions that are reached. -/
import Derived.Test.YtcdoglogglbemaaGreatDoorZa17
set_option linter.unusedVariables false
set_option linter.unusedSimpArgs false
namespace Go.Proofs.YtcdoglogglbemaaGreatDoor.K
open Go Go.AM Go.Proofs Go.RowKit
theorem removeChooses_h1 : (Rows.removeChoosesUptoRow.inPlace == Tryz.prog.inPlace 5) = true := by kernel_rfl
theorem removeChooses_h2 : (Rows.removeChoosesUptoRow.unfollowed == Tryz.prog.unfollowed 5) = true := by kernel_rfl
theorem removeChooses_h3 : (Rows.removeChoosesUptoRow.recurses == Tryz.prog.recurses 5) = true := by kernel_rfl
theorem removeChooses_h4 : (Rows.removeChoosesUptoRow.named == Tryz.prog.varsNamed 5) = true := by kernel_rfl
end Go.Proofs.YtcdoglogglbemaaGreatDoor.K
