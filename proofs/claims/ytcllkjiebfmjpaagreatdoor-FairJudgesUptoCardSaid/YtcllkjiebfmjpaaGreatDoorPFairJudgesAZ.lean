
/- The law FairJudges: what its row says of the functions that are reached. -/
import Derived.Test.YtcllkjiebfmjpaaGreatDoorZ12
set_option linter.unusedVariables false
set_option linter.unusedSimpArgs false
namespace Go.Proofs.YtcllkjiebfmjpaaGreatDoor.K
open Go Go.AM Go.Proofs Go.RowKit
theorem fairJudges_h1 : (Rows.fairJudgesUptoRow.inPlace == Tryz.prog.inPlace 9) = true := by kernel_rfl
theorem fairJudges_h2 : (Rows.fairJudgesUptoRow.unfollowed == Tryz.prog.unfollowed 9) = true := by kernel_rfl
theorem fairJudges_h3 : (Rows.fairJudgesUptoRow.recurses == Tryz.prog.recurses 9) = true := by kernel_rfl
theorem fairJudges_h4 : (Rows.fairJudgesUptoRow.named == Tryz.prog.varsNamed 9) = true := by kernel_rfl
end Go.Proofs.YtcllkjiebfmjpaaGreatDoor.K
