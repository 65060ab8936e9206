
/- The law ReoptSolves: what its row says of the functions that are reached. -/
import Derived.Test.YtiigdaohjanidaaGreatDoorZ25
set_option linter.unusedVariables false
set_option linter.unusedSimpArgs false
namespace Go.Proofs.YtiigdaohjanidaaGreatDoor.K
open Go Go.AM Go.Proofs Go.RowKit
theorem reoptSolves_h1 : (Rows.reoptSolvesUptoRow.inPlace == Tryz.prog.inPlace 6) = true := by kernel_rfl
theorem reoptSolves_h2 : (Rows.reoptSolvesUptoRow.unfollowed == Tryz.prog.unfollowed 6) = true := by kernel_rfl
theorem reoptSolves_h3 : (Rows.reoptSolvesUptoRow.recurses == Tryz.prog.recurses 6) = true := by kernel_rfl
theorem reoptSolves_h4 : (Rows.reoptSolvesUptoRow.named == Tryz.prog.varsNamed 6) = true := by kernel_rfl
end Go.Proofs.YtiigdaohjanidaaGreatDoor.K
