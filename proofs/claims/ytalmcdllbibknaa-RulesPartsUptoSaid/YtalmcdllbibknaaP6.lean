/- The statement RulesPartsUptoSaid is proved: for every input of bulk at most 1048576 the law RulesParts returns true and leaves its arguments as they were. Condition: the bulk, as the given row has it. -/
import Derived.Test.YtalmcdllbibknaaS2
import Derived.Test.YtalmcdllbibknaaL6
import Derived.Test.YtalmcdllbibknaaU1
set_option linter.unusedVariables false
set_option linter.unusedSimpArgs false
namespace Go.Proofs.Ytalmcdllbibknaa.K
open Go Go.AM Go.Proofs Go.RowKit

theorem rulesParts_args {xs} (h : FitAll Try.prog 1048576 Try.f8.params.toList xs) : ACalls Try.prog 8 (xs.map .p) [] fun x H' => x = .p (.bool true) ∧ H' = [] := by
  rw [show Try.f8.params.toList = [37, 3, 3] from by rw [Try.params8]] at h
  obtain ⟨x1, r1, rfl, h1, h⟩ := fitAll_cons h
  obtain ⟨x2, r2, rfl, h2, h⟩ := fitAll_cons h
  obtain ⟨x3, r3, rfl, h3, h⟩ := fitAll_cons h
  obtain rfl := fitAll_nil h
  obtain ⟨pl, ar, ty, os, ap, be, rfl, e1, e2, e3, _, la, lb⟩ := fit_inst h1
  obtain ⟨s, rfl, w⟩ := fit_int Try.underlying3 h2
  obtain ⟨o, rfl, _⟩ := fit_int Try.underlying3 h3
  exact rulesParts_c pl ar ty false false false os ap be s o (i64_wf w).2 e1 e2 e3 la lb

set_option maxRecDepth 100000 in
theorem rulesParts_lifted (os : Os) (started : os.Started) (H : Type) (enc : TypeId × Value → H) (F : Stop.Interp) :
    ReturnsInHanded {} Try.checked os 8 .any ((Rows.OpenSpec.upto Rows.rulesPartsSpec).pre6 enc Try.prog Try.f8 Rows.rulesPartsUptoRow.domain false) (((Rows.OpenSpec.upto Rows.rulesPartsSpec).at F).post enc Try.prog Try.f8 false true false false) := by
  refine returnsInHanded_of_cond (C := Try.checked) (s := Rows.OpenSpec.upto Rows.rulesPartsSpec) (k := Rows.uptoSmall) rfl own started (by kernel_rfl) Try.func8
    (OpenSpec.witness (enc := enc) (C := Try.checked) (s := Rows.OpenSpec.upto Rows.rulesPartsSpec) (k := Rows.uptoSmall) rfl false ⟨#[], #[.agg #[.slice none 0 0, .slice none 0 0, .slice none 0 0, .slice none 0 0, .slice none 0 0, .slice none 0 0], .int .i64 0, .int .i64 0], []⟩ 8 (by kernel_rfl) (by kernel_rfl) (by kernel_rfl)
      (x := ([.agg [.agg [.nil, .nil], .nil, .nil, .nil, .nil], .lit (.int .i64 0), .lit (.int .i64 0)], [], [])) (by kernel_rfl) rfl (by kernel_rfl)) ?_
  intro W base args ds gs before hval hW _ hk _
  refine law_contract (P := Try.prog) (fn := Try.f8) (spec := Rows.rulesPartsSpec) (tb := 4) (B := 1048576) ?_ rfl laidOut (by kernel_rfl) (by kernel_rfl) Try.underlying4 (fun xs h => rulesParts_args h) hval hW (.inr (small_dszs hk))
  intro ds hds
  rw [show Try.f8.params.toList = [37, 3, 3] from by rw [Try.params8]] at hds
  match ds, hds with
  | [d1, d2, d3], _ => rfl

theorem rulesParts_holds : Rows.RulesPartsUptoSaid :=
  OpenClaim.holds_of_cond 8 Try.f8 rfl rfl rfl rfl rfl rfl rfl ⟨rfl, rfl, rfl, rfl, rfl⟩ rfl rfl rfl rfl rfl (by kernel_rfl) Try.func8 (by kernel_rfl)
    (of_decide_eq_true (by kernel_rfl)) (by unfold Func.isWrapper; first | (rw [if_pos (by decide +kernel)]; kernel_rfl) | (rw [if_neg (by decide +kernel)]; exact ⟨rfl, rfl⟩))
    (fun os started H enc _ F => rulesParts_lifted os started H enc F)
end Go.Proofs.Ytalmcdllbibknaa.K
