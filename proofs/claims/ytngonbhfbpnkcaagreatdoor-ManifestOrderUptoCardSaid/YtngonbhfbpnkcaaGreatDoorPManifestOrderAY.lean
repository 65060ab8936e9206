
/- The law ManifestOrder: what its row says of the functions that are reached. -/
import Derived.Test.YtngonbhfbpnkcaaGreatDoorY18
set_option linter.unusedVariables false
set_option linter.unusedSimpArgs false
namespace Go.Proofs.YtngonbhfbpnkcaaGreatDoor.K
open Go Go.AM Go.Proofs Go.RowKit
theorem manifestOrder_h1 : (Rows.manifestOrderUptoRow.inPlace == Tryz.prog.inPlace 6) = true := by kernel_rfl
theorem manifestOrder_h2 : (Rows.manifestOrderUptoRow.unfollowed == Tryz.prog.unfollowed 6) = true := by kernel_rfl
theorem manifestOrder_h3 : (Rows.manifestOrderUptoRow.recurses == Tryz.prog.recurses 6) = true := by kernel_rfl
theorem manifestOrder_h4 : (Rows.manifestOrderUptoRow.named == Tryz.prog.varsNamed 6) = true := by kernel_rfl
end Go.Proofs.YtngonbhfbpnkcaaGreatDoor.K
