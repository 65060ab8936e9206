/- The statement RulesChecksSaid is proved: for every input the law RulesChecks returns true and leaves its arguments as they were. No conditions. -/
import Derived.Test.YtalmcdllbibknaaS1
set_option linter.unusedVariables false
set_option linter.unusedSimpArgs false
namespace Go.Proofs.Ytalmcdllbibknaa.K
open Go Go.AM Go.Proofs Go.RowKit

theorem rulesChecks_args {B xs} (h : FitAll Try.prog B Try.f3.params.toList xs) : ACalls Try.prog 3 (xs.map .p) [] fun x H' => x = .p (.bool true) ∧ H' = [] := by
  rw [show Try.f3.params.toList = [3, 22, 22] from by rw [Try.params3]] at h
  obtain ⟨x1, r1, rfl, h1, h⟩ := fitAll_cons h
  obtain ⟨x2, r2, rfl, h2, h⟩ := fitAll_cons h
  obtain ⟨x3, r3, rfl, h3, h⟩ := fitAll_cons h
  obtain rfl := fitAll_nil h
  obtain ⟨n, rfl, _⟩ := fit_int Try.underlying3 h1
  obtain ⟨ap, rfl, _, _⟩ := fit_pairs h2
  obtain ⟨be, rfl, _, _⟩ := fit_pairs h3
  exact rulesChecks_c n ap be false false

set_option maxRecDepth 100000 in
theorem rulesChecks_lifted (os : Os) (started : os.Started) (H : Type) (enc : TypeId × Value → H) :
    ReturnsInHanded {} Try.checked os 3 .any (Rows.rulesChecksSpec.pre6 enc Try.prog Try.f3 Rows.rulesChecksRow.domain false) (Rows.rulesChecksSpec.post enc Try.prog Try.f3 false true false false) := by
  refine returnsInHanded_of_change (C := Try.checked) own started (by kernel_rfl) Try.func3
    (ChangeSpec.witness6 (enc := enc) (C := Try.checked) false ⟨#[], #[.int .i64 0, .slice none 0 0, .slice none 0 0], []⟩ 8 (by kernel_rfl) (by kernel_rfl) (by kernel_rfl) (by kernel_rfl)) ?_
  intro W base args ds gs before hval hW _ _
  refine law_contract (P := Try.prog) (fn := Try.f3) (spec := Rows.rulesChecksSpec) (tb := 4) (B := maxLen) ?_ rfl laidOut (by kernel_rfl) (by kernel_rfl) Try.underlying4 (fun xs h => rulesChecks_args h) hval hW (.inl (Nat.le_refl _))
  intro ds hds
  rw [show Try.f3.params.toList = [3, 22, 22] from by rw [Try.params3]] at hds
  match ds, hds with
  | [d1, d2, d3], _ => rfl

theorem rulesChecks_holds : Rows.RulesChecksSaid :=
  OpenClaim.holds_of_wide 3 Try.f3 rfl rfl rfl rfl rfl rfl rfl ⟨rfl, rfl, rfl, rfl, rfl⟩ rfl rfl rfl rfl rfl (by kernel_rfl) Try.func3 (by kernel_rfl)
    (of_decide_eq_true (by kernel_rfl)) (by unfold Func.isWrapper; first | (rw [if_pos (by decide +kernel)]; kernel_rfl) | (rw [if_neg (by decide +kernel)]; exact ⟨rfl, rfl⟩))
    (fun os started H enc _ => rulesChecks_lifted os started H enc)
end Go.Proofs.Ytalmcdllbibknaa.K
