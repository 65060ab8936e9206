
/- The law ExactOrder: what its row says of the functions that are reached. -/
import Derived.Test.YtkhgmjdijnmhbaaDoorZ14
set_option linter.unusedVariables false
set_option linter.unusedSimpArgs false
namespace Go.Proofs.YtkhgmjdijnmhbaaDoor.K
open Go Go.AM Go.Proofs Go.RowKit
theorem exactOrder_h1 : (Rows.exactOrderUptoRow.inPlace == Tryd.prog.inPlace 4) = true := by kernel_rfl
theorem exactOrder_h2 : (Rows.exactOrderUptoRow.unfollowed == Tryd.prog.unfollowed 4) = true := by kernel_rfl
theorem exactOrder_h3 : (Rows.exactOrderUptoRow.recurses == Tryd.prog.recurses 4) = true := by kernel_rfl
theorem exactOrder_h4 : (Rows.exactOrderUptoRow.named == Tryd.prog.varsNamed 4) = true := by kernel_rfl
end Go.Proofs.YtkhgmjdijnmhbaaDoor.K
