
/- The law WeekLeast: what its row says of the functions that are reached. -/
import Derived.Test.YtiigdaohjanidaaGreatDoorI24
set_option linter.unusedVariables false
set_option linter.unusedSimpArgs false
namespace Go.Proofs.YtiigdaohjanidaaGreatDoor.K
open Go Go.AM Go.Proofs Go.RowKit
theorem weekLeast_h1 : (Rows.weekLeastUptoRow.inPlace == Tryz.prog.inPlace 4) = true := by kernel_rfl
theorem weekLeast_h2 : (Rows.weekLeastUptoRow.unfollowed == Tryz.prog.unfollowed 4) = true := by kernel_rfl
theorem weekLeast_h3 : (Rows.weekLeastUptoRow.recurses == Tryz.prog.recurses 4) = true := by kernel_rfl
theorem weekLeast_h4 : (Rows.weekLeastUptoRow.named == Tryz.prog.varsNamed 4) = true := by kernel_rfl
end Go.Proofs.YtiigdaohjanidaaGreatDoor.K
