
/- The law ReoptStays: what its row says of the functions that are reached. -/
import Derived.Test.YtiigdaohjanidaaGreatDoorS25
set_option linter.unusedVariables false
set_option linter.unusedSimpArgs false
namespace Go.Proofs.YtiigdaohjanidaaGreatDoor.K
open Go Go.AM Go.Proofs Go.RowKit
theorem reoptStays_h1 : (Rows.reoptStaysUptoRow.inPlace == Tryz.prog.inPlace 8) = true := by kernel_rfl
theorem reoptStays_h2 : (Rows.reoptStaysUptoRow.unfollowed == Tryz.prog.unfollowed 8) = true := by kernel_rfl
theorem reoptStays_h3 : (Rows.reoptStaysUptoRow.recurses == Tryz.prog.recurses 8) = true := by kernel_rfl
theorem reoptStays_h4 : (Rows.reoptStaysUptoRow.named == Tryz.prog.varsNamed 8) = true := by kernel_rfl
end Go.Proofs.YtiigdaohjanidaaGreatDoor.K
