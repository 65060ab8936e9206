/- The boundary: facts of the program. -/
import Derived.Test.YtkhgmjdijnmhbaaDoorZ14
set_option linter.unusedVariables false
set_option linter.unusedSimpArgs false
namespace Go.Proofs.YtkhgmjdijnmhbaaDoor.K
open Go Go.AM Go.Proofs Go.RowKit
theorem gl_laid : laidOutB Tryd.prog = true := by kernel_rfl
theorem gl_maps : mapsRowed Tryd.prog = true := by kernel_rfl
theorem gl_keys : Tryd.prog.plainKeys = false := by kernel_rfl
theorem gl_heard : Tryd.prog.stopsHeard = true := by kernel_rfl
end Go.Proofs.YtkhgmjdijnmhbaaDoor.K
