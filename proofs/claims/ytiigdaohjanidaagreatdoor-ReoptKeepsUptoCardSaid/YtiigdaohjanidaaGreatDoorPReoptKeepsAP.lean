
/- The law ReoptKeeps: what its row says of the functions that are reached. -/
import Derived.Test.YtiigdaohjanidaaGreatDoorP26
set_option linter.unusedVariables false
set_option linter.unusedSimpArgs false
namespace Go.Proofs.YtiigdaohjanidaaGreatDoor.K
open Go Go.AM Go.Proofs Go.RowKit
theorem reoptKeeps_h1 : (Rows.reoptKeepsUptoRow.inPlace == Tryz.prog.inPlace 7) = true := by kernel_rfl
theorem reoptKeeps_h2 : (Rows.reoptKeepsUptoRow.unfollowed == Tryz.prog.unfollowed 7) = true := by kernel_rfl
theorem reoptKeeps_h3 : (Rows.reoptKeepsUptoRow.recurses == Tryz.prog.recurses 7) = true := by kernel_rfl
theorem reoptKeeps_h4 : (Rows.reoptKeepsUptoRow.named == Tryz.prog.varsNamed 7) = true := by kernel_rfl
end Go.Proofs.YtiigdaohjanidaaGreatDoor.K
