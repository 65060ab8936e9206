
/- The law WeekOthers: what its row says of the functions that are reached. -/
import Derived.Test.YtiigdaohjanidaaGreatDoorH24
set_option linter.unusedVariables false
set_option linter.unusedSimpArgs false
namespace Go.Proofs.YtiigdaohjanidaaGreatDoor.K
open Go Go.AM Go.Proofs Go.RowKit
theorem weekOthers_h1 : (Rows.weekOthersUptoRow.inPlace == Tryz.prog.inPlace 5) = true := by kernel_rfl
theorem weekOthers_h2 : (Rows.weekOthersUptoRow.unfollowed == Tryz.prog.unfollowed 5) = true := by kernel_rfl
theorem weekOthers_h3 : (Rows.weekOthersUptoRow.recurses == Tryz.prog.recurses 5) = true := by kernel_rfl
theorem weekOthers_h4 : (Rows.weekOthersUptoRow.named == Tryz.prog.varsNamed 5) = true := by kernel_rfl
end Go.Proofs.YtiigdaohjanidaaGreatDoor.K
