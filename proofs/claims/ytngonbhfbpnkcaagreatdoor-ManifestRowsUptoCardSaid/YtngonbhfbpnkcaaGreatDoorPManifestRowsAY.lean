
/- The law ManifestRows: what its row says of the functions that are reached. -/
import Derived.Test.YtngonbhfbpnkcaaGreatDoorY18
set_option linter.unusedVariables false
set_option linter.unusedSimpArgs false
namespace Go.Proofs.YtngonbhfbpnkcaaGreatDoor.K
open Go Go.AM Go.Proofs Go.RowKit
theorem manifestRows_h1 : (Rows.manifestRowsUptoRow.inPlace == Tryz.prog.inPlace 3) = true := by kernel_rfl
theorem manifestRows_h2 : (Rows.manifestRowsUptoRow.unfollowed == Tryz.prog.unfollowed 3) = true := by kernel_rfl
theorem manifestRows_h3 : (Rows.manifestRowsUptoRow.recurses == Tryz.prog.recurses 3) = true := by kernel_rfl
theorem manifestRows_h4 : (Rows.manifestRowsUptoRow.named == Tryz.prog.varsNamed 3) = true := by kernel_rfl
end Go.Proofs.YtngonbhfbpnkcaaGreatDoor.K
