/- What comes in: the boundary of the laws. -/
import Derived.Test.YtlbhefiehkmhjaaU1
import Derived.Test.YtlbhefiehkmhjaaT1
set_option linter.unusedVariables false
set_option linter.unusedSimpArgs false
namespace Go.Proofs.Ytlbhefiehkmhjaa.K
open Go Go.AM Go.Proofs

theorem own : ownKnob Try.prog.godebug = none := by kernel_rfl
theorem laidOut : laidOutB Try.prog = true := by kernel_rfl
theorem fit_Viss {B x} (h : FitV Try.prog B 32 x) : ∃ l : List Vis, x = .list false (l.map eVis) ∧ l.length ≤ B ∧ ∀ v ∈ l, v.wf B := by
  obtain ⟨xs, rfl, h1, _, h2⟩ := fit_slice Try.underlying32 h
  obtain ⟨l, rfl, h3⟩ := row_map (f := eVis) fun y hy => fit_Vis (h2 y hy)
  exact ⟨l, rfl, by simpa using h1, h3⟩
theorem fit_Itms {B x} (h : FitV Try.prog B 57 x) : ∃ l : List Itm, x = .list false (l.map eItm) ∧ l.length ≤ B ∧ ∀ v ∈ l, v.wf B := by
  obtain ⟨xs, rfl, h1, _, h2⟩ := fit_slice Try.underlying57 h
  obtain ⟨l, rfl, h3⟩ := row_map (f := eItm) fun y hy => fit_Itm (h2 y hy)
  exact ⟨l, rfl, by simpa using h1, h3⟩
end Go.Proofs.Ytlbhefiehkmhjaa.K
