
/- The law FairWorks: what its row says of the functions that are reached. -/
import Derived.Test.YtcllkjiebfmjpaaGreatDoorZ12
set_option linter.unusedVariables false
set_option linter.unusedSimpArgs false
namespace Go.Proofs.YtcllkjiebfmjpaaGreatDoor.K
open Go Go.AM Go.Proofs Go.RowKit
theorem fairWorks_h1 : (Rows.fairWorksUptoRow.inPlace == Tryz.prog.inPlace 7) = true := by kernel_rfl
theorem fairWorks_h2 : (Rows.fairWorksUptoRow.unfollowed == Tryz.prog.unfollowed 7) = true := by kernel_rfl
theorem fairWorks_h3 : (Rows.fairWorksUptoRow.recurses == Tryz.prog.recurses 7) = true := by kernel_rfl
theorem fairWorks_h4 : (Rows.fairWorksUptoRow.named == Tryz.prog.varsNamed 7) = true := by kernel_rfl
end Go.Proofs.YtcllkjiebfmjpaaGreatDoor.K
