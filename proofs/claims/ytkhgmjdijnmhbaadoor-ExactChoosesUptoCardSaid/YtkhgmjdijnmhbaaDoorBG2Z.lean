/- The boundary: facts of the program, further ones. -/
import Derived.Test.YtkhgmjdijnmhbaaDoorZ14
import Derived.Test.YtkhgmjdijnmhbaaDoorBG1Z
set_option linter.unusedVariables false
set_option linter.unusedSimpArgs false
namespace Go.Proofs.YtkhgmjdijnmhbaaDoor.K
open Go Go.AM Go.Proofs Go.RowKit
theorem gl_lifts : Tryd.prog.liftsFinal = false := by kernel_rfl
theorem gl_stops : (Tryd.prog.stops == []) = true := by kernel_rfl
theorem gl_knobs : (Tryd.prog.stopKnobs == []) = true := by kernel_rfl
theorem gl_enter : Tryd.prog.mayEnter = true := by kernel_rfl
theorem globB : GlobB Tryd.prog := ⟨gl_laid, gl_maps, gl_stops, gl_knobs, gl_keys, gl_heard, gl_enter, gl_lifts⟩
end Go.Proofs.YtkhgmjdijnmhbaaDoor.K
