
/- The statement RelaxedWeakerUptoSaid is proved: for every input of bulk at most 1048576 the law RelaxedWeaker returns true and leaves its arguments as they were. Condition: the bulk, as the given row has it. -/
import Derived.Test.YtccjopdlbolnhaaGreatZ11
set_option linter.unusedVariables false
set_option linter.unusedSimpArgs false
namespace Go.Proofs.YtccjopdlbolnhaaGreat.K
open Go Go.AM Go.Proofs Go.RowKit

theorem relaxedWeaker_args {xs} (h : FitAll Tryz.prog 1048576 Tryz.f3.params.toList xs) : ACalls Tryz.prog 3 (xs.map .p) [] fun x H' => x = .p (.bool true) ∧ H' = [] := by
  rw [show Tryz.f3.params.toList = [30, 31, 35] from by rw [Tryz.params3]] at h
  obtain ⟨z1, r1, rfl, h1, h⟩ := fitAll_cons h
  obtain ⟨z2, r2, rfl, h2, h⟩ := fitAll_cons h
  obtain ⟨z3, r3, rfl, h3, h⟩ := fitAll_cons h
  obtain rfl := fitAll_nil h
  obtain ⟨x1, rfl, w1⟩ := fit_Inst h1
  obtain ⟨x2, rfl, w2, u2⟩ := fit_Itms h2
  obtain ⟨x3, rfl, w3⟩ := fit_Rte h3
  exact lawWeaker_c x1 w1 x2 false w2 x3 ⟨w3.2.2.1, w3.2.2.2.2.1⟩

set_option maxRecDepth 100000 in
theorem relaxedWeaker_lifted (os : Os) (started : os.Started) (H : Type) (enc : TypeId × Value → H) (F : Stop.Interp) :
    ReturnsInHanded {} Tryz.checked os 3 .any ((Rows.OpenSpec.upto Rows.relaxedWeakerSpec).pre6 enc Tryz.prog Tryz.f3 Rows.relaxedWeakerUptoRow.domain false) (((Rows.OpenSpec.upto Rows.relaxedWeakerSpec).at F).post enc Tryz.prog Tryz.f3 false true false false) := by
  refine returnsInHanded_of_cond (C := Tryz.checked) (s := Rows.OpenSpec.upto Rows.relaxedWeakerSpec) (k := Rows.uptoSmall) rfl own started (by kernel_rfl) Tryz.func3
    (OpenSpec.witness (enc := enc) (C := Tryz.checked) (s := Rows.OpenSpec.upto Rows.relaxedWeakerSpec) (k := Rows.uptoSmall) rfl false ⟨#[], #[.agg #[.slice none 0 0, .slice none 0 0, .slice none 0 0, .slice none 0 0, .slice none 0 0, .slice none 0 0], .slice none 0 0, .agg #[.int .i64 0, .int .i64 0, .slice none 0 0, .slice none 0 0]], []⟩ 8 (by kernel_rfl) (by kernel_rfl) (by kernel_rfl)
      (x := ([.agg [.agg [.nil, .nil], .nil, .nil, .nil, .nil], .nil, .agg [.lit (.int .i64 0), .lit (.int .i64 0), .nil, .nil]], [], [])) (by kernel_rfl) rfl (by kernel_rfl)) ?_
  intro W base args ds gs before hval hW _ hk _
  refine law_contract (P := Tryz.prog) (fn := Tryz.f3) (spec := Rows.relaxedWeakerSpec) (tb := 4) (B := 1048576) ?_ rfl laidOut (by kernel_rfl) (by kernel_rfl) Tryz.underlying4 (fun xs h => relaxedWeaker_args h) hval hW (.inr (small_dszs hk))
  intro ds hds
  rw [show Tryz.f3.params.toList = [30, 31, 35] from by rw [Tryz.params3]] at hds
  match ds, hds with
  | [d1, d2, d3], _ => rfl

theorem relaxedWeaker_holds : Rows.RelaxedWeakerUptoSaid :=
  OpenClaim.holds_of_cond 3 Tryz.f3 rfl rfl rfl rfl rfl rfl rfl ⟨rfl, rfl, rfl, rfl, rfl⟩ rfl rfl rfl rfl rfl (by kernel_rfl) Tryz.func3 (by kernel_rfl)
    (of_decide_eq_true (by kernel_rfl)) (by unfold Func.isWrapper; first | (rw [if_pos (by decide +kernel)]; kernel_rfl) | (rw [if_neg (by decide +kernel)]; exact ⟨rfl, rfl⟩))
    (fun os started H enc _ F => relaxedWeaker_lifted os started H enc F)
end Go.Proofs.YtccjopdlbolnhaaGreat.K
