/- The boundary: facts of the program. -/
import Derived.Test.YtjkkdmeebhjaiaaGreatDoorH19
set_option linter.unusedVariables false
set_option linter.unusedSimpArgs false
namespace Go.Proofs.YtjkkdmeebhjaiaaGreatDoor.K
open Go Go.AM Go.Proofs Go.RowKit
theorem gl_laid : laidOutB Tryz.prog = true := by kernel_rfl
theorem gl_maps : mapsRowed Tryz.prog = true := by kernel_rfl
theorem gl_keys : Tryz.prog.plainKeys = false := by kernel_rfl
theorem gl_heard : Tryz.prog.stopsHeard = true := by kernel_rfl
end Go.Proofs.YtjkkdmeebhjaiaaGreatDoor.K
