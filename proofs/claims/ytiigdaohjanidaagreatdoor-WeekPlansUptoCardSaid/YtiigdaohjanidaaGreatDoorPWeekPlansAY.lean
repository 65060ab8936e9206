
/- The law WeekPlans: what its row says of the functions that are reached. -/
import Derived.Test.YtiigdaohjanidaaGreatDoorY23
set_option linter.unusedVariables false
set_option linter.unusedSimpArgs false
namespace Go.Proofs.YtiigdaohjanidaaGreatDoor.K
open Go Go.AM Go.Proofs Go.RowKit
theorem weekPlans_h1 : (Rows.weekPlansUptoRow.inPlace == Tryz.prog.inPlace 3) = true := by kernel_rfl
theorem weekPlans_h2 : (Rows.weekPlansUptoRow.unfollowed == Tryz.prog.unfollowed 3) = true := by kernel_rfl
theorem weekPlans_h3 : (Rows.weekPlansUptoRow.recurses == Tryz.prog.recurses 3) = true := by kernel_rfl
theorem weekPlans_h4 : (Rows.weekPlansUptoRow.named == Tryz.prog.varsNamed 3) = true := by kernel_rfl
end Go.Proofs.YtiigdaohjanidaaGreatDoor.K
