/- The statement RelaxedOrdersUptoSaid is proved: for every input of bulk at most 1048576 the law RelaxedOrders returns true and leaves its arguments as they were. Condition: the bulk, as the given row has it. -/
import Derived.Test.YtlbhefiehkmhjaaZ9
set_option linter.unusedVariables false
set_option linter.unusedSimpArgs false
namespace Go.Proofs.Ytlbhefiehkmhjaa.K
open Go Go.AM Go.Proofs Go.RowKit

theorem relaxedOrders_args {xs} (h : FitAll Try.prog 1048576 Try.f11.params.toList xs) : ACalls Try.prog 11 (xs.map .p) [] fun x H' => x = .p (.bool true) ∧ H' = [] := by
  rw [show Try.f11.params.toList = [55, 55, 55] from by rw [Try.params11]] at h
  obtain ⟨z1, r1, rfl, h1, h⟩ := fitAll_cons h
  obtain ⟨z2, r2, rfl, h2, h⟩ := fitAll_cons h
  obtain ⟨z3, r3, rfl, h3, h⟩ := fitAll_cons h
  obtain rfl := fitAll_nil h
  obtain ⟨x1, rfl, w1⟩ := fit_Itm h1
  obtain ⟨x2, rfl, w2⟩ := fit_Itm h2
  obtain ⟨x3, rfl, w3⟩ := fit_Itm h3
  exact lawOrders_c x1 x2 x3

set_option maxRecDepth 100000 in
theorem relaxedOrders_lifted (os : Os) (started : os.Started) (H : Type) (enc : TypeId × Value → H) (F : Stop.Interp) :
    ReturnsInHanded {} Try.checked os 11 .any ((Rows.OpenSpec.upto Rows.relaxedOrdersSpec).pre6 enc Try.prog Try.f11 Rows.relaxedOrdersUptoRow.domain false) (((Rows.OpenSpec.upto Rows.relaxedOrdersSpec).at F).post enc Try.prog Try.f11 false true false false) := by
  refine returnsInHanded_of_cond (C := Try.checked) (s := Rows.OpenSpec.upto Rows.relaxedOrdersSpec) (k := Rows.uptoSmall) rfl own started (by kernel_rfl) Try.func11
    (OpenSpec.witness (enc := enc) (C := Try.checked) (s := Rows.OpenSpec.upto Rows.relaxedOrdersSpec) (k := Rows.uptoSmall) rfl false ⟨#[], #[.agg #[.int .i64 0, .int .i64 0], .agg #[.int .i64 0, .int .i64 0], .agg #[.int .i64 0, .int .i64 0]], []⟩ 8 (by kernel_rfl) (by kernel_rfl) (by kernel_rfl)
      (x := ([.agg [.lit (.int .i64 0), .lit (.int .i64 0)], .agg [.lit (.int .i64 0), .lit (.int .i64 0)], .agg [.lit (.int .i64 0), .lit (.int .i64 0)]], [], [])) (by kernel_rfl) rfl (by kernel_rfl)) ?_
  intro W base args ds gs before hval hW _ hk _
  refine law_contract (P := Try.prog) (fn := Try.f11) (spec := Rows.relaxedOrdersSpec) (tb := 4) (B := 1048576) ?_ rfl laidOut (by kernel_rfl) (by kernel_rfl) Try.underlying4 (fun xs h => relaxedOrders_args h) hval hW (.inr (small_dszs hk))
  intro ds hds
  rw [show Try.f11.params.toList = [55, 55, 55] from by rw [Try.params11]] at hds
  match ds, hds with
  | [d1, d2, d3], _ => rfl

theorem relaxedOrders_holds : Rows.RelaxedOrdersUptoSaid :=
  OpenClaim.holds_of_cond 11 Try.f11 rfl rfl rfl rfl rfl rfl rfl ⟨rfl, rfl, rfl, rfl, rfl⟩ rfl rfl rfl rfl rfl (by kernel_rfl) Try.func11 (by kernel_rfl)
    (of_decide_eq_true (by kernel_rfl)) (by unfold Func.isWrapper; first | (rw [if_pos (by decide +kernel)]; kernel_rfl) | (rw [if_neg (by decide +kernel)]; exact ⟨rfl, rfl⟩))
    (fun os started H enc _ F => relaxedOrders_lifted os started H enc F)
end Go.Proofs.Ytlbhefiehkmhjaa.K
