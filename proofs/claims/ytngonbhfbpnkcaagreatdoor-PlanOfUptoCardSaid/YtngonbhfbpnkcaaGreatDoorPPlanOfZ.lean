
/- The statement PlanOfUptoCardSaid is proved: for every input of bulk at most 1048576 the law PlanOf returns true and leaves its arguments as they were. Conditions: the bulk, and what the listed package-level variables hold at the start (the law does not read them), as the given row has it; the card ties the latter to the text of the program by the given tie. -/
import Derived.Test.YtngonbhfbpnkcaaGreatDoorZ18
import Derived.Test.YtngonbhfbpnkcaaGreatDoorBG2Z
import Derived.Test.YtngonbhfbpnkcaaGreatDoorPPlanOfAZ
import Derived.Test.YtngonbhfbpnkcaaGreatDoorPPlanOfBZ
import Derived.Test.YtngonbhfbpnkcaaGreatDoorCards
import Derived.SevenTiedAt
set_option linter.unusedVariables false
set_option linter.unusedSimpArgs false
namespace Go.Proofs.YtngonbhfbpnkcaaGreatDoor.K
open Go Go.AM Go.Proofs Go.RowKit

theorem planOf_args {xs} (h : FitAll Tryz.prog 1048576 Tryz.f11.params.toList xs) : ACalls Tryz.prog 11 (xs.map .p) [] fun x H' => x = .p (.bool true) ∧ H' = [] := by
  rw [show Tryz.f11.params.toList = [30, 75] from by rw [Tryz.params11]] at h
  obtain ⟨z1, r1, rfl, h1, h⟩ := fitAll_cons h
  obtain ⟨z2, r2, rfl, h2, h⟩ := fitAll_cons h
  obtain rfl := fitAll_nil h
  obtain ⟨x1, rfl, w1⟩ := fit_Inst h1
  obtain ⟨xs2, rfl, u2, _, v2⟩ := fit_slice Tryz.underlying75 h2; obtain ⟨x2, rfl, w2⟩ := row_map (f := eCol) fun y hy => fit_Col (v2 y hy)
  exact lawPlanOf_c x1 w1 x2 false (by simpa using u2) w2

set_option maxRecDepth 100000 in
theorem planOf_lifted (os : Os) (started : os.Started) (H : Type) (enc : TypeId × Value → H) (F : Stop.Interp) :
    ReturnsInHanded {} Tryz.checked os 11 .any (fun w args => ((Rows.OpenSpec.upto Rows.planOfSpec).pre enc Tryz.prog Tryz.f11 Rows.planOfUptoRow.domain false w args ∧ laidMetH Tryz.prog laid5 w) ∧ sizedMet enc Tryz.prog Tryz.f11 (Rows.OpenSpec.upto Rows.planOfSpec) false w args) (((Rows.OpenSpec.upto Rows.planOfSpec).at F).post enc Tryz.prog Tryz.f11 false true false false) := by
  refine handed_laid (C := Tryz.checked) (s := Rows.OpenSpec.upto Rows.planOfSpec) (k := Rows.uptoSmall) (X := laidMetH Tryz.prog laid5) rfl own started (by kernel_rfl) Tryz.func11
    (witness_laid (enc := enc) (C := Tryz.checked) (s := Rows.OpenSpec.upto Rows.planOfSpec) (k := Rows.uptoSmall) (X := laidMetH Tryz.prog laid5) rfl false (laidV os) #[.agg #[.slice none 0 0, .slice none 0 0, .slice none 0 0, .slice none 0 0, .slice none 0 0, .slice none 0 0], .slice none 0 0] 8 rfl (by kernel_rfl) (by kernel_rfl) (by kernel_rfl)
      (x := ([.agg [.agg [.nil, .nil], .nil, .nil, .nil, .nil], .nil], [], [])) (by kernel_rfl) rfl (by kernel_rfl) (laidV_met os _) (by kernel_rfl)) ?_
  intro W base args ds gs before hval hW _ hk _
  refine law_contract (P := Tryz.prog) (fn := Tryz.f11) (spec := Rows.planOfSpec) (tb := 4) (B := 1048576) ?_ rfl laidOut (by kernel_rfl) (by kernel_rfl) Tryz.underlying4 (fun xs h => planOf_args h) hval hW (.inr (small_dszs hk))
  intro ds hds
  rw [show Tryz.f11.params.toList = [30, 75] from by rw [Tryz.params11]] at hds
  match ds, hds with
  | [d1, d2], _ => rfl

theorem planOf_holds : Rows.PlanOfUptoSaid :=
  OpenClaim.holds_of_cond 11 Tryz.f11 rfl rfl rfl rfl rfl rfl rfl ⟨rfl, rfl, rfl, rfl, rfl⟩ rfl rfl rfl rfl rfl (by kernel_rfl) Tryz.func11 (joined_of globB planOf_h1 planOf_h2 planOf_h3 planOf_h4 (by kernel_rfl))
    (of_decide_eq_true (by kernel_rfl)) (by unfold Func.isWrapper; first | (rw [if_pos (by decide +kernel)]; kernel_rfl) | (rw [if_neg (by decide +kernel)]; exact ⟨rfl, rfl⟩))
    (fun os started H enc _ F => planOf_lifted os started H enc F)
theorem planOf_card : Rows.PlanOfUptoCardSaid :=
  Claim7.holds_tied_plain_at .later [] [.data, .data, .data, .sentinel, .sentinel] true (true, "724531d32426ce654e7285be7fbb7bbb0ff51425ea23325b0915c31279d6a94b") true
    planOf_holds (fun _ h => by cases h) planOf_k1 (fun _ h => by cases h) planOfUpto_row_tie rfl ⟨rfl, rfl⟩ planOf_k4 rfl
    (fun f fn hf hfn => by
      obtain rfl : f = 11 := Option.some.inj (planOf_k3.symm.trans hf) |>.symm
      obtain rfl : fn = Tryz.f11 := (Option.some.inj (Tryz.func11.symm.trans hfn)).symm
      exact ⟨planOf_k5, fun j t ht => by
        have hm : t ∈ Tryz.f11.params.toList := List.mem_of_getElem? (by simpa using ht)
        rw [show Tryz.f11.params.toList = [30, 75] from by rw [Tryz.params11]] at hm
        simp only [List.mem_cons, List.not_mem_nil, or_false] at hm
        rcases hm with rfl | rfl
        · exact (show Tryz.prog.wantsStandIn 30 = false by kernel_rfl)
        · exact (show Tryz.prog.wantsStandIn 75 = false by kernel_rfl)⟩)
    planOf_k2
end Go.Proofs.YtngonbhfbpnkcaaGreatDoor.K
