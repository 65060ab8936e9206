/- The boundary: facts of the program, further ones. -/
import Derived.Test.YtjkkdmeebhjaiaaGreatDoorH19
import Derived.Test.YtjkkdmeebhjaiaaGreatDoorBG1H
set_option linter.unusedVariables false
set_option linter.unusedSimpArgs false
namespace Go.Proofs.YtjkkdmeebhjaiaaGreatDoor.K
open Go Go.AM Go.Proofs Go.RowKit
theorem gl_lifts : Tryz.prog.liftsFinal = false := by kernel_rfl
theorem gl_stops : (Tryz.prog.stops == []) = true := by kernel_rfl
theorem gl_knobs : (Tryz.prog.stopKnobs == []) = true := by kernel_rfl
theorem gl_enter : Tryz.prog.mayEnter = true := by kernel_rfl
theorem globB : GlobB Tryz.prog := ⟨gl_laid, gl_maps, gl_stops, gl_knobs, gl_keys, gl_heard, gl_enter, gl_lifts⟩
end Go.Proofs.YtjkkdmeebhjaiaaGreatDoor.K
