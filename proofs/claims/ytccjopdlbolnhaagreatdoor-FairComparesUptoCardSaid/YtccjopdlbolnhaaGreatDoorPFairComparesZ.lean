
/- The statement FairComparesUptoCardSaid is proved: for every input of bulk at most 1048576 the law FairCompares returns true and leaves its arguments as they were. Conditions: the bulk, and what the listed package-level variables hold at the start (the law does not read them), as the given row has it; the card ties the latter to the text of the program by the given tie. -/
import Derived.Test.YtccjopdlbolnhaaGreatDoorZ8
import Derived.Test.YtccjopdlbolnhaaGreatDoorCards
import Derived.SevenTiedAt
set_option linter.unusedVariables false
set_option linter.unusedSimpArgs false
namespace Go.Proofs.YtccjopdlbolnhaaGreatDoor.K
open Go Go.AM Go.Proofs Go.RowKit

theorem fairCompares_args {xs} (h : FitAll Tryz.prog 1048576 Tryz.f8.params.toList xs) : ACalls Tryz.prog 8 (xs.map .p) [] fun x H' => x = .p (.bool true) ∧ H' = [] := by
  rw [show Tryz.f8.params.toList = [32, 32] from by rw [Tryz.params8]] at h
  obtain ⟨z1, r1, rfl, h1, h⟩ := fitAll_cons h
  obtain ⟨z2, r2, rfl, h2, h⟩ := fitAll_cons h
  obtain rfl := fitAll_nil h
  obtain ⟨xs1, rfl, u1, _, v1⟩ := fit_slice Tryz.underlying32 h1; obtain ⟨x1, rfl, w1⟩ := fit_ints v1
  obtain ⟨xs2, rfl, u2, _, v2⟩ := fit_slice Tryz.underlying32 h2; obtain ⟨x2, rfl, w2⟩ := fit_ints v2
  exact lawCompares_c x1 x2 false false (by simpa using u1) (by simpa using u2)

set_option maxRecDepth 100000 in
theorem fairCompares_lifted (os : Os) (started : os.Started) (H : Type) (enc : TypeId × Value → H) (F : Stop.Interp) :
    ReturnsInHanded {} Tryz.checked os 8 .any (fun w args => ((Rows.OpenSpec.upto Rows.fairComparesSpec).pre enc Tryz.prog Tryz.f8 Rows.fairComparesUptoRow.domain false w args ∧ laidMetH Tryz.prog laid3 w) ∧ sizedMet enc Tryz.prog Tryz.f8 (Rows.OpenSpec.upto Rows.fairComparesSpec) false w args) (((Rows.OpenSpec.upto Rows.fairComparesSpec).at F).post enc Tryz.prog Tryz.f8 false true false false) := by
  refine handed_laid (C := Tryz.checked) (s := Rows.OpenSpec.upto Rows.fairComparesSpec) (k := Rows.uptoSmall) (X := laidMetH Tryz.prog laid3) rfl own started (by kernel_rfl) Tryz.func8
    (witness_laid (enc := enc) (C := Tryz.checked) (s := Rows.OpenSpec.upto Rows.fairComparesSpec) (k := Rows.uptoSmall) (X := laidMetH Tryz.prog laid3) rfl false (laidW os) #[.slice none 0 0, .slice none 0 0] 8 rfl (by kernel_rfl) (by kernel_rfl) (by kernel_rfl)
      (x := ([.nil, .nil], [], [])) (by kernel_rfl) rfl (by kernel_rfl) (laidW_met os _) (by kernel_rfl)) ?_
  intro W base args ds gs before hval hW _ hk _
  refine law_contract (P := Tryz.prog) (fn := Tryz.f8) (spec := Rows.fairComparesSpec) (tb := 4) (B := 1048576) ?_ rfl laidOut (by kernel_rfl) (by kernel_rfl) Tryz.underlying4 (fun xs h => fairCompares_args h) hval hW (.inr (small_dszs hk))
  intro ds hds
  rw [show Tryz.f8.params.toList = [32, 32] from by rw [Tryz.params8]] at hds
  match ds, hds with
  | [d1, d2], _ => rfl

theorem fairCompares_holds : Rows.FairComparesUptoSaid :=
  OpenClaim.holds_of_cond 8 Tryz.f8 rfl rfl rfl rfl rfl rfl rfl ⟨rfl, rfl, rfl, rfl, rfl⟩ rfl rfl rfl rfl rfl (by kernel_rfl) Tryz.func8 (by kernel_rfl)
    (of_decide_eq_true (by kernel_rfl)) (by unfold Func.isWrapper; first | (rw [if_pos (by decide +kernel)]; kernel_rfl) | (rw [if_neg (by decide +kernel)]; exact ⟨rfl, rfl⟩))
    (fun os started H enc _ F => fairCompares_lifted os started H enc F)
theorem fairCompares_card : Rows.FairComparesUptoCardSaid :=
  Claim7.holds_tied_plain_at .later [] [.data, .data, .data] true (true, "0859fa20a54c08ec801ed04c0a94064d37467330419bc6185d9e9ed81e235019") true
    fairCompares_holds (fun _ h => by cases h) (by kernel_rfl) (fun _ h => by cases h) fairComparesUpto_row_tie rfl ⟨rfl, rfl⟩ (by kernel_rfl) rfl
    (fun f fn hf hfn => by
      obtain rfl : f = 8 := Option.some.inj ((show Tryz.prog.funcNamed "lorry/lorrylaw52.FairCompares" = some 8 by kernel_rfl).symm.trans hf) |>.symm
      obtain rfl : fn = Tryz.f8 := (Option.some.inj (Tryz.func8.symm.trans hfn)).symm
      exact ⟨by kernel_rfl, fun j t ht => by
        have hm : t ∈ Tryz.f8.params.toList := List.mem_of_getElem? (by simpa using ht)
        rw [show Tryz.f8.params.toList = [32, 32] from by rw [Tryz.params8]] at hm
        simp only [List.mem_cons, List.not_mem_nil, or_false] at hm
        rcases hm with rfl | rfl
        · exact (show Tryz.prog.wantsStandIn 32 = false by kernel_rfl)
        · exact (show Tryz.prog.wantsStandIn 32 = false by kernel_rfl)⟩)
    (by kernel_rfl)
end Go.Proofs.YtccjopdlbolnhaaGreatDoor.K
