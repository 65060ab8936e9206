/- The statement SequenceOrdersUptoSaid is proved: for every input of bulk at most 1048576 the law SequenceOrders returns true and leaves its arguments as they were. Condition: the bulk, as the given row has it. -/
import Derived.Test.YtlbhefiehkmhjaaB1
import Derived.Test.YtlbhefiehkmhjaaL3
set_option linter.unusedVariables false
set_option linter.unusedSimpArgs false
namespace Go.Proofs.Ytlbhefiehkmhjaa.K
open Go Go.AM Go.Proofs Go.RowKit

theorem sequenceOrders_args {xs} (h : FitAll Try.prog 1048576 Try.f8.params.toList xs) : ACalls Try.prog 8 (xs.map .p) [] fun x H' => x = .p (.bool true) ∧ H' = [] := by
  rw [show Try.f8.params.toList = [32, 32, 32] from by rw [Try.params8]] at h
  obtain ⟨z1, r1, rfl, h1, h⟩ := fitAll_cons h
  obtain ⟨z2, r2, rfl, h2, h⟩ := fitAll_cons h
  obtain ⟨z3, r3, rfl, h3, h⟩ := fitAll_cons h
  obtain rfl := fitAll_nil h
  obtain ⟨x1, rfl, w1, u1⟩ := fit_Viss h1
  obtain ⟨x2, rfl, w2, u2⟩ := fit_Viss h2
  obtain ⟨x3, rfl, w3, u3⟩ := fit_Viss h3
  exact lawOrders_c x1 x2 x3 false false false w1 w2 w3

set_option maxRecDepth 100000 in
theorem sequenceOrders_lifted (os : Os) (started : os.Started) (H : Type) (enc : TypeId × Value → H) (F : Stop.Interp) :
    ReturnsInHanded {} Try.checked os 8 .any ((Rows.OpenSpec.upto Rows.sequenceOrdersSpec).pre6 enc Try.prog Try.f8 Rows.sequenceOrdersUptoRow.domain false) (((Rows.OpenSpec.upto Rows.sequenceOrdersSpec).at F).post enc Try.prog Try.f8 false true false false) := by
  refine returnsInHanded_of_cond (C := Try.checked) (s := Rows.OpenSpec.upto Rows.sequenceOrdersSpec) (k := Rows.uptoSmall) rfl own started (by kernel_rfl) Try.func8
    (OpenSpec.witness (enc := enc) (C := Try.checked) (s := Rows.OpenSpec.upto Rows.sequenceOrdersSpec) (k := Rows.uptoSmall) rfl false ⟨#[], #[.slice none 0 0, .slice none 0 0, .slice none 0 0], []⟩ 8 (by kernel_rfl) (by kernel_rfl) (by kernel_rfl)
      (x := ([.nil, .nil, .nil], [], [])) (by kernel_rfl) rfl (by kernel_rfl)) ?_
  intro W base args ds gs before hval hW _ hk _
  refine law_contract (P := Try.prog) (fn := Try.f8) (spec := Rows.sequenceOrdersSpec) (tb := 4) (B := 1048576) ?_ rfl laidOut (by kernel_rfl) (by kernel_rfl) Try.underlying4 (fun xs h => sequenceOrders_args h) hval hW (.inr (small_dszs hk))
  intro ds hds
  rw [show Try.f8.params.toList = [32, 32, 32] from by rw [Try.params8]] at hds
  match ds, hds with
  | [d1, d2, d3], _ => rfl

theorem sequenceOrders_holds : Rows.SequenceOrdersUptoSaid :=
  OpenClaim.holds_of_cond 8 Try.f8 rfl rfl rfl rfl rfl rfl rfl ⟨rfl, rfl, rfl, rfl, rfl⟩ rfl rfl rfl rfl rfl (by kernel_rfl) Try.func8 (by kernel_rfl)
    (of_decide_eq_true (by kernel_rfl)) (by unfold Func.isWrapper; first | (rw [if_pos (by decide +kernel)]; kernel_rfl) | (rw [if_neg (by decide +kernel)]; exact ⟨rfl, rfl⟩))
    (fun os started H enc _ F => sequenceOrders_lifted os started H enc F)
end Go.Proofs.Ytlbhefiehkmhjaa.K
