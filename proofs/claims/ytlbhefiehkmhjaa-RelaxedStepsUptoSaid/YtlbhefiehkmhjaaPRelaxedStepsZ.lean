/- The statement RelaxedStepsUptoSaid is proved: for every input of bulk at most 1048576 the law RelaxedSteps returns true and leaves its arguments as they were. Condition: the bulk, as the given row has it. -/
import Derived.Test.YtlbhefiehkmhjaaZ9
set_option linter.unusedVariables false
set_option linter.unusedSimpArgs false
namespace Go.Proofs.Ytlbhefiehkmhjaa.K
open Go Go.AM Go.Proofs Go.RowKit

theorem relaxedSteps_args {xs} (h : FitAll Try.prog 1048576 Try.f13.params.toList xs) : ACalls Try.prog 13 (xs.map .p) [] fun x H' => x = .p (.bool true) ∧ H' = [] := by
  rw [show Try.f13.params.toList = [30, 57, 3] from by rw [Try.params13]] at h
  obtain ⟨z1, r1, rfl, h1, h⟩ := fitAll_cons h
  obtain ⟨z2, r2, rfl, h2, h⟩ := fitAll_cons h
  obtain ⟨z3, r3, rfl, h3, h⟩ := fitAll_cons h
  obtain rfl := fitAll_nil h
  obtain ⟨x1, rfl, w1⟩ := fit_Inst h1
  obtain ⟨x2, rfl, w2, u2⟩ := fit_Itms h2
  obtain ⟨x3, rfl, w3⟩ := fit_int Try.underlying3 h3; have w3 := i64_wf w3
  exact lawSteps_c x1 w1 x2 false w2 x3 w3

set_option maxRecDepth 100000 in
theorem relaxedSteps_lifted (os : Os) (started : os.Started) (H : Type) (enc : TypeId × Value → H) (F : Stop.Interp) :
    ReturnsInHanded {} Try.checked os 13 .any ((Rows.OpenSpec.upto Rows.relaxedStepsSpec).pre6 enc Try.prog Try.f13 Rows.relaxedStepsUptoRow.domain false) (((Rows.OpenSpec.upto Rows.relaxedStepsSpec).at F).post enc Try.prog Try.f13 false true false false) := by
  refine returnsInHanded_of_cond (C := Try.checked) (s := Rows.OpenSpec.upto Rows.relaxedStepsSpec) (k := Rows.uptoSmall) rfl own started (by kernel_rfl) Try.func13
    (OpenSpec.witness (enc := enc) (C := Try.checked) (s := Rows.OpenSpec.upto Rows.relaxedStepsSpec) (k := Rows.uptoSmall) rfl false ⟨#[], #[.agg #[.slice none 0 0, .slice none 0 0, .slice none 0 0, .slice none 0 0, .slice none 0 0, .slice none 0 0], .slice none 0 0, .int .i64 0], []⟩ 8 (by kernel_rfl) (by kernel_rfl) (by kernel_rfl)
      (x := ([.agg [.agg [.nil, .nil], .nil, .nil, .nil, .nil], .nil, .lit (.int .i64 0)], [], [])) (by kernel_rfl) rfl (by kernel_rfl)) ?_
  intro W base args ds gs before hval hW _ hk _
  refine law_contract (P := Try.prog) (fn := Try.f13) (spec := Rows.relaxedStepsSpec) (tb := 4) (B := 1048576) ?_ rfl laidOut (by kernel_rfl) (by kernel_rfl) Try.underlying4 (fun xs h => relaxedSteps_args h) hval hW (.inr (small_dszs hk))
  intro ds hds
  rw [show Try.f13.params.toList = [30, 57, 3] from by rw [Try.params13]] at hds
  match ds, hds with
  | [d1, d2, d3], _ => rfl

theorem relaxedSteps_holds : Rows.RelaxedStepsUptoSaid :=
  OpenClaim.holds_of_cond 13 Try.f13 rfl rfl rfl rfl rfl rfl rfl ⟨rfl, rfl, rfl, rfl, rfl⟩ rfl rfl rfl rfl rfl (by kernel_rfl) Try.func13 (by kernel_rfl)
    (of_decide_eq_true (by kernel_rfl)) (by unfold Func.isWrapper; first | (rw [if_pos (by decide +kernel)]; kernel_rfl) | (rw [if_neg (by decide +kernel)]; exact ⟨rfl, rfl⟩))
    (fun os started H enc _ F => relaxedSteps_lifted os started H enc F)
end Go.Proofs.Ytlbhefiehkmhjaa.K
