
/- The law ExplainPrices: what its row says of the functions that are reached. -/
import Derived.Test.YtjkkdmeebhjaiaaGreatDoorS19
set_option linter.unusedVariables false
set_option linter.unusedSimpArgs false
namespace Go.Proofs.YtjkkdmeebhjaiaaGreatDoor.K
open Go Go.AM Go.Proofs Go.RowKit
theorem explainPrices_h1 : (Rows.explainPricesUptoRow.inPlace == Tryz.prog.inPlace 7) = true := by kernel_rfl
theorem explainPrices_h2 : (Rows.explainPricesUptoRow.unfollowed == Tryz.prog.unfollowed 7) = true := by kernel_rfl
theorem explainPrices_h3 : (Rows.explainPricesUptoRow.recurses == Tryz.prog.recurses 7) = true := by kernel_rfl
theorem explainPrices_h4 : (Rows.explainPricesUptoRow.named == Tryz.prog.varsNamed 7) = true := by kernel_rfl
end Go.Proofs.YtjkkdmeebhjaiaaGreatDoor.K
