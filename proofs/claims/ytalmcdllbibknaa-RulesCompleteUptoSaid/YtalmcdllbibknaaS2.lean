/- Instances, as they come in. -/
import Derived.Test.YtalmcdllbibknaaS1
set_option linter.unusedVariables false
set_option linter.unusedSimpArgs false
namespace Go.Proofs.Ytalmcdllbibknaa.K
open Go Go.AM Go.Proofs

abbrev I64 (n : Int) : Prop := -9223372036854775808 ≤ n ∧ n ≤ 9223372036854775807

theorem len4 {α : Type} {l : List α} (h : l.length = 4) : ∃ a b c d, l = [a, b, c, d] := by match l, h with | [a, b, c, d], _ => exact ⟨a, b, c, d, rfl⟩
theorem len6 {α : Type} {l : List α} (h : l.length = 6) : ∃ a b c d e f, l = [a, b, c, d, e, f] := by match l, h with | [a, b, c, d, e, f], _ => exact ⟨a, b, c, d, e, f, rfl⟩
theorem len16 {α : Type} {l : List α} (h : l.length = 16) : ∃ a0 a1 a2 a3 a4 a5 a6 a7 a8 a9 b0 b1 b2 b3 b4 b5, l = [a0, a1, a2, a3, a4, a5, a6, a7, a8, a9, b0, b1, b2, b3, b4, b5] := by
  match l, h with | [a0, a1, a2, a3, a4, a5, a6, a7, a8, a9, b0, b1, b2, b3, b4, b5], _ => exact ⟨a0, a1, a2, a3, a4, a5, a6, a7, a8, a9, b0, b1, b2, b3, b4, b5, rfl⟩

theorem fits_stop {B m cs} (h : fits Try.prog B m 50 cs) : ∃ a b c d, cs = [.int .i64 a, .int .i64 b, .int .i64 c, .int .i64 d] ∧ I64 a ∧ I64 b ∧ I64 c ∧ I64 d := by
  obtain ⟨h1, m', h2⟩ := fits_agg pcs50 cel50 h
  obtain ⟨a, b, c, d, rfl⟩ := len4 h1
  obtain ⟨n0, e0, w0⟩ := fits_int Try.underlying3 (h2 (0, 3) (by simp))
  obtain ⟨n1, e1, w1⟩ := fits_int Try.underlying3 (h2 (1, 3) (by simp))
  obtain ⟨n2, e2, w2⟩ := fits_int Try.underlying3 (h2 (2, 3) (by simp))
  obtain ⟨n3, e3, w3⟩ := fits_int Try.underlying3 (h2 (3, 3) (by simp))
  simp [cel3] at e0 e1 e2 e3
  subst e0; subst e1; subst e2; subst e3
  exact ⟨n0, n1, n2, n3, rfl, i64_wf w0, i64_wf w1, i64_wf w2, i64_wf w3⟩

theorem fit_ints {B xs} (h : ∀ y ∈ xs, FitV Try.prog B 3 y) : ∃ l : List Int, xs = l.map eI ∧ ∀ n ∈ l, I64 n :=
  row_map (f := eI) fun y hy => by
    obtain ⟨n, rfl, w⟩ := fit_int Try.underlying3 (h y hy)
    exact ⟨n, rfl, i64_wf w⟩

theorem fit_order {B x} (h : FitV Try.prog B 52 x) : ∃ o : Ord, x = eO o := by
  obtain ⟨cs, rfl, h1, m', h2⟩ := fit_agg pcs52 cel52 h
  obtain ⟨a0, a1, a2, a3, a4, a5, a6, a7, a8, a9, b0, b1, b2, b3, b4, b5, rfl⟩ := len16 h1
  obtain ⟨s, e0, _⟩ := fits_str Try.underlying9 (h2 (0, 9) (by simp))
  obtain ⟨ys, e1, _, _, hy⟩ := fits_slice Try.underlying48 (h2 (1, 48) (by simp))
  obtain ⟨p1, p2, p3, p4, e2, _⟩ := fits_stop (h2 (2, 50) (by simp))
  obtain ⟨d1, d2, d3, d4, e6, _⟩ := fits_stop (h2 (6, 50) (by simp))
  obtain ⟨n0, f0, w0⟩ := fits_int Try.underlying3 (h2 (10, 3) (by simp))
  obtain ⟨n1, f1, w1⟩ := fits_int Try.underlying3 (h2 (11, 3) (by simp))
  obtain ⟨n2, f2, w2⟩ := fits_int Try.underlying3 (h2 (12, 3) (by simp))
  obtain ⟨n3, f3, w3⟩ := fits_int Try.underlying3 (h2 (13, 3) (by simp))
  obtain ⟨n4, f4, w4⟩ := fits_int Try.underlying3 (h2 (14, 3) (by simp))
  obtain ⟨b, f5⟩ := fits_bool Try.underlying4 (h2 (15, 4) (by simp))
  obtain ⟨l, rfl, _⟩ := fit_ints hy
  simp [cel3, cel4, cel9, cel48, cel50] at e0 e1 e2 e6 f0 f1 f2 f3 f4 f5
  subst e0; subst e1; subst f0; subst f1; subst f2; subst f3; subst f4; subst f5
  obtain ⟨rfl, rfl, rfl, rfl⟩ := e2
  obtain ⟨rfl, rfl, rfl, rfl⟩ := e6
  exact ⟨⟨s, false, l, p1, p2, p3, p4, d1, d2, d3, d4, n0, n1, n2, n3, n4, b⟩, rfl⟩

theorem fit_inst {B x} (h : FitV Try.prog B 37 x) : ∃ (pl ar ty : PV) (os : List Ord) (ap be : List (Int × Int)), x = inst pl ar ty false false false (os.map eO) ap be ∧ pl.one = true ∧ ar.one = true ∧ ty.one = true ∧ os.length ≤ B ∧ ap.length ≤ B ∧ be.length ≤ B := by
  obtain ⟨cs, rfl, h1, m', h2⟩ := fit_agg pcs37 cel37 h
  obtain ⟨a0, a1, a2, a3, a4, a5, rfl⟩ := len6 h1
  have hn := h2 (0, 33) (by simp)
  obtain ⟨k1, k', k2⟩ := fits_agg pcs33 cel33 hn
  obtain ⟨xp, e0, _⟩ := fits_slice Try.underlying30 (k2 (0, 30) (by simp))
  obtain ⟨xa, e1, _⟩ := fits_slice Try.underlying31 (k2 (1, 31) (by simp))
  obtain ⟨xt, e2, _⟩ := fits_slice Try.underlying34 (h2 (2, 34) (by simp))
  obtain ⟨xo, e3, bo, _, ho⟩ := fits_slice Try.underlying35 (h2 (3, 35) (by simp))
  obtain ⟨xs, e4, ba, _, ha⟩ := fits_slice Try.underlying22 (h2 (4, 22) (by simp))
  obtain ⟨ys, e5, bb, _, hb⟩ := fits_slice Try.underlying22 (h2 (5, 22) (by simp))
  obtain ⟨os, rfl, _⟩ := row_map (f := eO) (R := fun _ => True) fun y hy => (fit_order (ho y hy)).imp fun o e => ⟨e, trivial⟩
  obtain ⟨ap, rfl, _⟩ := row_map (f := eP) fun y hy => fit_pair (ha y hy)
  obtain ⟨be, rfl, _⟩ := row_map (f := eP) fun y hy => fit_pair (hb y hy)
  simp [cel30, cel31, cel33, cel34, cel35, cel22] at e0 e1 e2 e3 e4 e5
  subst e0; subst e1; subst e2; subst e3; subst e4; subst e5
  exact ⟨_, _, _, os, ap, be, rfl, rfl, rfl, rfl, by simpa using bo, by simpa using ba, by simpa using bb⟩
end Go.Proofs.Ytalmcdllbibknaa.K
