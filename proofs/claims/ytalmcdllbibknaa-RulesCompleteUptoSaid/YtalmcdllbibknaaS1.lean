/- Lists of pairs, as they come in. -/
import Derived.Test.YtalmcdllbibknaaG
import Derived.Test.YtalmcdllbibknaaC9
set_option linter.unusedVariables false
set_option linter.unusedSimpArgs false
namespace Go.Proofs.Ytalmcdllbibknaa.K
open Go Go.AM Go.Proofs

theorem own : ownKnob Try.prog.godebug = none := by kernel_rfl
theorem laidOut : laidOutB Try.prog = true := by kernel_rfl

theorem len1 {α : Type} {l : List α} (h : l.length = 1) : ∃ a, l = [a] := by match l, h with | [a], _ => exact ⟨a, rfl⟩
theorem len2 {α : Type} {l : List α} (h : l.length = 2) : ∃ a b, l = [a, b] := by match l, h with | [a, b], _ => exact ⟨a, b, rfl⟩

theorem fits_pair {B m cs} (h : fits Try.prog B m 45 cs) : ∃ p : Int × Int, cs = [.int .i64 p.1, .int .i64 p.2] ∧ (-9223372036854775808 ≤ p.1 ∧ p.1 ≤ 9223372036854775807) ∧ (-9223372036854775808 ≤ p.2 ∧ p.2 ≤ 9223372036854775807) := by
  obtain ⟨h1, m', h2⟩ := fits_agg pcs45 cel45 h
  obtain ⟨a, b, rfl⟩ := len2 h1
  obtain ⟨n, e1, w1⟩ := fits_int Try.underlying3 (h2 (0, 3) (by simp))
  obtain ⟨k, e2, w2⟩ := fits_int Try.underlying3 (h2 (1, 3) (by simp))
  simp [cel3] at e1 e2
  subst e1; subst e2
  exact ⟨(n, k), rfl, i64_wf w1, i64_wf w2⟩
theorem fit_pair {B x} (h : FitV Try.prog B 45 x) : ∃ p : Int × Int, x = eP p ∧ (-9223372036854775808 ≤ p.1 ∧ p.1 ≤ 9223372036854775807) ∧ (-9223372036854775808 ≤ p.2 ∧ p.2 ≤ 9223372036854775807) := by
  obtain ⟨k, cs, h, rfl⟩ := h
  obtain ⟨p, rfl, h2⟩ := fits_pair h
  exact ⟨p, by rw [mkEl, if_pos (pcs_tagg pcs45)]; rfl, h2⟩
theorem fit_pairs {B x} (h : FitV Try.prog B 22 x) : ∃ l : List (Int × Int), x = .list false (l.map eP) ∧ l.length ≤ B ∧ ∀ p ∈ l, (-9223372036854775808 ≤ p.1 ∧ p.1 ≤ 9223372036854775807) ∧ (-9223372036854775808 ≤ p.2 ∧ p.2 ≤ 9223372036854775807) := by
  obtain ⟨xs, rfl, h1, _, h2⟩ := fit_slice Try.underlying22 h
  obtain ⟨l, rfl, h3⟩ := row_map (f := eP) fun y hy => fit_pair (h2 y hy)
  exact ⟨l, rfl, by simpa using h1, h3⟩
end Go.Proofs.Ytalmcdllbibknaa.K
