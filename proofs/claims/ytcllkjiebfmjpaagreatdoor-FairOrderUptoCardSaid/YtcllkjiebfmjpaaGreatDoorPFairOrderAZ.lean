
/- The law FairOrder: what its row says of the functions that are reached. -/
import Derived.Test.YtcllkjiebfmjpaaGreatDoorZ12
set_option linter.unusedVariables false
set_option linter.unusedSimpArgs false
namespace Go.Proofs.YtcllkjiebfmjpaaGreatDoor.K
open Go Go.AM Go.Proofs Go.RowKit
theorem fairOrder_h1 : (Rows.fairOrderUptoRow.inPlace == Tryz.prog.inPlace 10) = true := by kernel_rfl
theorem fairOrder_h2 : (Rows.fairOrderUptoRow.unfollowed == Tryz.prog.unfollowed 10) = true := by kernel_rfl
theorem fairOrder_h3 : (Rows.fairOrderUptoRow.recurses == Tryz.prog.recurses 10) = true := by kernel_rfl
theorem fairOrder_h4 : (Rows.fairOrderUptoRow.named == Tryz.prog.varsNamed 10) = true := by kernel_rfl
end Go.Proofs.YtcllkjiebfmjpaaGreatDoor.K
