
/- The law ManifestTicks: what its row says of the functions that are reached. -/
import Derived.Test.YtngonbhfbpnkcaaGreatDoorY18
set_option linter.unusedVariables false
set_option linter.unusedSimpArgs false
namespace Go.Proofs.YtngonbhfbpnkcaaGreatDoor.K
open Go Go.AM Go.Proofs Go.RowKit
theorem manifestTicks_h1 : (Rows.manifestTicksUptoRow.inPlace == Tryz.prog.inPlace 4) = true := by kernel_rfl
theorem manifestTicks_h2 : (Rows.manifestTicksUptoRow.unfollowed == Tryz.prog.unfollowed 4) = true := by kernel_rfl
theorem manifestTicks_h3 : (Rows.manifestTicksUptoRow.recurses == Tryz.prog.recurses 4) = true := by kernel_rfl
theorem manifestTicks_h4 : (Rows.manifestTicksUptoRow.named == Tryz.prog.varsNamed 4) = true := by kernel_rfl
end Go.Proofs.YtngonbhfbpnkcaaGreatDoor.K
