
/- The law WeekCounts: what its row says of the functions that are reached. -/
import Derived.Test.YtbdmjphjnniogaaGreatDoorZ21
set_option linter.unusedVariables false
set_option linter.unusedSimpArgs false
namespace Go.Proofs.YtbdmjphjnniogaaGreatDoor.K
open Go Go.AM Go.Proofs Go.RowKit
theorem weekCounts_h1 : (Rows.weekCountsUptoRow.inPlace == Tryz.prog.inPlace 4) = true := by kernel_rfl
theorem weekCounts_h2 : (Rows.weekCountsUptoRow.unfollowed == Tryz.prog.unfollowed 4) = true := by kernel_rfl
theorem weekCounts_h3 : (Rows.weekCountsUptoRow.recurses == Tryz.prog.recurses 4) = true := by kernel_rfl
theorem weekCounts_h4 : (Rows.weekCountsUptoRow.named == Tryz.prog.varsNamed 4) = true := by kernel_rfl
end Go.Proofs.YtbdmjphjnniogaaGreatDoor.K
