
/- The law ExactChooses: what its row says of the functions that are reached. -/
import Derived.Test.YtkhgmjdijnmhbaaDoorZ14
set_option linter.unusedVariables false
set_option linter.unusedSimpArgs false
namespace Go.Proofs.YtkhgmjdijnmhbaaDoor.K
open Go Go.AM Go.Proofs Go.RowKit
theorem exactChooses_h1 : (Rows.exactChoosesUptoRow.inPlace == Tryd.prog.inPlace 3) = true := by kernel_rfl
theorem exactChooses_h2 : (Rows.exactChoosesUptoRow.unfollowed == Tryd.prog.unfollowed 3) = true := by kernel_rfl
theorem exactChooses_h3 : (Rows.exactChoosesUptoRow.recurses == Tryd.prog.recurses 3) = true := by kernel_rfl
theorem exactChooses_h4 : (Rows.exactChoosesUptoRow.named == Tryd.prog.varsNamed 3) = true := by kernel_rfl
end Go.Proofs.YtkhgmjdijnmhbaaDoor.K
