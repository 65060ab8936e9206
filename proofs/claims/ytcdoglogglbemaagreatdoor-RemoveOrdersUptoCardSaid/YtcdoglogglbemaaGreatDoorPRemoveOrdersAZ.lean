
/- The law RemoveOrders: what its row says of the functions that are reached. -/
import Derived.Test.YtcdoglogglbemaaGreatDoorZ16
set_option linter.unusedVariables false
set_option linter.unusedSimpArgs false
namespace Go.Proofs.YtcdoglogglbemaaGreatDoor.K
open Go Go.AM Go.Proofs Go.RowKit
theorem removeOrders_h1 : (Rows.removeOrdersUptoRow.inPlace == Tryz.prog.inPlace 3) = true := by kernel_rfl
theorem removeOrders_h2 : (Rows.removeOrdersUptoRow.unfollowed == Tryz.prog.unfollowed 3) = true := by kernel_rfl
theorem removeOrders_h3 : (Rows.removeOrdersUptoRow.recurses == Tryz.prog.recurses 3) = true := by kernel_rfl
theorem removeOrders_h4 : (Rows.removeOrdersUptoRow.named == Tryz.prog.varsNamed 3) = true := by kernel_rfl
end Go.Proofs.YtcdoglogglbemaaGreatDoor.K
