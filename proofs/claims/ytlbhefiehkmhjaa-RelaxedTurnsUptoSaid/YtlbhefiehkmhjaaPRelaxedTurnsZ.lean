/- The statement RelaxedTurnsUptoSaid is proved: for every input of bulk at most 1048576 the law RelaxedTurns returns true and leaves its arguments as they were. Condition: the bulk, as the given row has it. -/
import Derived.Test.YtlbhefiehkmhjaaZ9
set_option linter.unusedVariables false
set_option linter.unusedSimpArgs false
namespace Go.Proofs.Ytlbhefiehkmhjaa.K
open Go Go.AM Go.Proofs Go.RowKit

theorem relaxedTurns_args {xs} (h : FitAll Try.prog 1048576 Try.f12.params.toList xs) : ACalls Try.prog 12 (xs.map .p) [] fun x H' => x = .p (.bool true) ∧ H' = [] := by
  rw [show Try.f12.params.toList = [30, 57] from by rw [Try.params12]] at h
  obtain ⟨z1, r1, rfl, h1, h⟩ := fitAll_cons h
  obtain ⟨z2, r2, rfl, h2, h⟩ := fitAll_cons h
  obtain rfl := fitAll_nil h
  obtain ⟨x1, rfl, w1⟩ := fit_Inst h1
  obtain ⟨x2, rfl, w2, u2⟩ := fit_Itms h2
  exact lawTurns_c x1 w1 x2 false w2

set_option maxRecDepth 100000 in
theorem relaxedTurns_lifted (os : Os) (started : os.Started) (H : Type) (enc : TypeId × Value → H) (F : Stop.Interp) :
    ReturnsInHanded {} Try.checked os 12 .any ((Rows.OpenSpec.upto Rows.relaxedTurnsSpec).pre6 enc Try.prog Try.f12 Rows.relaxedTurnsUptoRow.domain false) (((Rows.OpenSpec.upto Rows.relaxedTurnsSpec).at F).post enc Try.prog Try.f12 false true false false) := by
  refine returnsInHanded_of_cond (C := Try.checked) (s := Rows.OpenSpec.upto Rows.relaxedTurnsSpec) (k := Rows.uptoSmall) rfl own started (by kernel_rfl) Try.func12
    (OpenSpec.witness (enc := enc) (C := Try.checked) (s := Rows.OpenSpec.upto Rows.relaxedTurnsSpec) (k := Rows.uptoSmall) rfl false ⟨#[], #[.agg #[.slice none 0 0, .slice none 0 0, .slice none 0 0, .slice none 0 0, .slice none 0 0, .slice none 0 0], .slice none 0 0], []⟩ 8 (by kernel_rfl) (by kernel_rfl) (by kernel_rfl)
      (x := ([.agg [.agg [.nil, .nil], .nil, .nil, .nil, .nil], .nil], [], [])) (by kernel_rfl) rfl (by kernel_rfl)) ?_
  intro W base args ds gs before hval hW _ hk _
  refine law_contract (P := Try.prog) (fn := Try.f12) (spec := Rows.relaxedTurnsSpec) (tb := 4) (B := 1048576) ?_ rfl laidOut (by kernel_rfl) (by kernel_rfl) Try.underlying4 (fun xs h => relaxedTurns_args h) hval hW (.inr (small_dszs hk))
  intro ds hds
  rw [show Try.f12.params.toList = [30, 57] from by rw [Try.params12]] at hds
  match ds, hds with
  | [d1, d2], _ => rfl

theorem relaxedTurns_holds : Rows.RelaxedTurnsUptoSaid :=
  OpenClaim.holds_of_cond 12 Try.f12 rfl rfl rfl rfl rfl rfl rfl ⟨rfl, rfl, rfl, rfl, rfl⟩ rfl rfl rfl rfl rfl (by kernel_rfl) Try.func12 (by kernel_rfl)
    (of_decide_eq_true (by kernel_rfl)) (by unfold Func.isWrapper; first | (rw [if_pos (by decide +kernel)]; kernel_rfl) | (rw [if_neg (by decide +kernel)]; exact ⟨rfl, rfl⟩))
    (fun os started H enc _ F => relaxedTurns_lifted os started H enc F)
end Go.Proofs.Ytlbhefiehkmhjaa.K
