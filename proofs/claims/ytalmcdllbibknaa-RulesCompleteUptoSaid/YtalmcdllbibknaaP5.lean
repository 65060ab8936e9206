/- The statement RulesCompleteUptoSaid is proved: for every input of bulk at most 1048576 the law RulesComplete returns true and leaves its arguments as they were. Condition: the bulk, as the given row has it. -/
import Derived.Test.YtalmcdllbibknaaS2
import Derived.Test.YtalmcdllbibknaaL5
import Derived.Test.YtalmcdllbibknaaU1
set_option linter.unusedVariables false
set_option linter.unusedSimpArgs false
namespace Go.Proofs.Ytalmcdllbibknaa.K
open Go Go.AM Go.Proofs Go.RowKit

theorem rulesComplete_args {xs} (h : FitAll Try.prog 1048576 Try.f7.params.toList xs) : ACalls Try.prog 7 (xs.map .p) [] fun x H' => x = .p (.bool true) ∧ H' = [] := by
  rw [show Try.f7.params.toList = [37] from by rw [Try.params7]] at h
  obtain ⟨x1, r1, rfl, h1, h⟩ := fitAll_cons h
  obtain rfl := fitAll_nil h
  obtain ⟨pl, ar, ty, os, ap, be, rfl, e1, e2, e3, _, la, lb⟩ := fit_inst h1
  exact rulesComplete_c pl ar ty false false false os ap be e1 e2 e3 la lb

set_option maxRecDepth 100000 in
theorem rulesComplete_lifted (os : Os) (started : os.Started) (H : Type) (enc : TypeId × Value → H) (F : Stop.Interp) :
    ReturnsInHanded {} Try.checked os 7 .any ((Rows.OpenSpec.upto Rows.rulesCompleteSpec).pre6 enc Try.prog Try.f7 Rows.rulesCompleteUptoRow.domain false) (((Rows.OpenSpec.upto Rows.rulesCompleteSpec).at F).post enc Try.prog Try.f7 false true false false) := by
  refine returnsInHanded_of_cond (C := Try.checked) (s := Rows.OpenSpec.upto Rows.rulesCompleteSpec) (k := Rows.uptoSmall) rfl own started (by kernel_rfl) Try.func7
    (OpenSpec.witness (enc := enc) (C := Try.checked) (s := Rows.OpenSpec.upto Rows.rulesCompleteSpec) (k := Rows.uptoSmall) rfl false ⟨#[], #[.agg #[.slice none 0 0, .slice none 0 0, .slice none 0 0, .slice none 0 0, .slice none 0 0, .slice none 0 0]], []⟩ 8 (by kernel_rfl) (by kernel_rfl) (by kernel_rfl)
      (x := ([.agg [.agg [.nil, .nil], .nil, .nil, .nil, .nil]], [], [])) (by kernel_rfl) rfl (by kernel_rfl)) ?_
  intro W base args ds gs before hval hW _ hk _
  refine law_contract (P := Try.prog) (fn := Try.f7) (spec := Rows.rulesCompleteSpec) (tb := 4) (B := 1048576) ?_ rfl laidOut (by kernel_rfl) (by kernel_rfl) Try.underlying4 (fun xs h => rulesComplete_args h) hval hW (.inr (small_dszs hk))
  intro ds hds
  rw [show Try.f7.params.toList = [37] from by rw [Try.params7]] at hds
  match ds, hds with
  | [d1], _ => rfl

theorem rulesComplete_holds : Rows.RulesCompleteUptoSaid :=
  OpenClaim.holds_of_cond 7 Try.f7 rfl rfl rfl rfl rfl rfl rfl ⟨rfl, rfl, rfl, rfl, rfl⟩ rfl rfl rfl rfl rfl (by kernel_rfl) Try.func7 (by kernel_rfl)
    (of_decide_eq_true (by kernel_rfl)) (by unfold Func.isWrapper; first | (rw [if_pos (by decide +kernel)]; kernel_rfl) | (rw [if_neg (by decide +kernel)]; exact ⟨rfl, rfl⟩))
    (fun os started H enc _ F => rulesComplete_lifted os started H enc F)
end Go.Proofs.Ytalmcdllbibknaa.K
