
/- The law ManifestRows: further facts of its row. -/
import Derived.Test.YtngonbhfbpnkcaaGreatDoorY18
set_option linter.unusedVariables false
set_option linter.unusedSimpArgs false
namespace Go.Proofs.YtngonbhfbpnkcaaGreatDoor.K
open Go Go.AM Go.Proofs Go.RowKit
theorem manifestRows_k1 : Rows.manifestRowsUptoRow.wfByText (Rows.OpenSpec.upto Rows.manifestRowsSpec) = true := by kernel_rfl
theorem manifestRows_k2 : false = Rows.manifestRowsUptoRow.goesBy Tryz.prog := by kernel_rfl
theorem manifestRows_k3 : Tryz.prog.funcNamed "lorry/lorrylaw58.ManifestRows" = some 3 := by kernel_rfl
theorem manifestRows_k4 : Tryz.prog.mainIs = some (true, "724531d32426ce654e7285be7fbb7bbb0ff51425ea23325b0915c31279d6a94b".toList) := by kernel_rfl
theorem manifestRows_k5 : true = Tryz.prog.looks [] := by kernel_rfl
end Go.Proofs.YtngonbhfbpnkcaaGreatDoor.K
