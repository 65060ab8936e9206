
/- The statement FairOrderUptoCardSaid is proved: for every input of bulk at most 1048576 the law FairOrder returns true and leaves its arguments as they were. Conditions: the bulk, and what the listed package-level variables hold at the start (the law does not read them), as the given row has it; the card ties the latter to the text of the program by the given tie. -/
import Derived.Test.YtcllkjiebfmjpaaGreatDoorZ12
import Derived.Test.YtcllkjiebfmjpaaGreatDoorBG2Z
import Derived.Test.YtcllkjiebfmjpaaGreatDoorPFairOrderAZ
import Derived.Test.YtcllkjiebfmjpaaGreatDoorCards
import Derived.SevenTiedAt
set_option linter.unusedVariables false
set_option linter.unusedSimpArgs false
namespace Go.Proofs.YtcllkjiebfmjpaaGreatDoor.K
open Go Go.AM Go.Proofs Go.RowKit

theorem fairOrder_args {xs} (h : FitAll Tryz.prog 1048576 Tryz.f10.params.toList xs) : ACalls Tryz.prog 10 (xs.map .p) [] fun x H' => x = .p (.bool true) ∧ H' = [] := by
  rw [show Tryz.f10.params.toList = [30, 34, 34, 32, 32, 32] from by rw [Tryz.params10]] at h
  obtain ⟨z1, r1, rfl, h1, h⟩ := fitAll_cons h
  obtain ⟨z2, r2, rfl, h2, h⟩ := fitAll_cons h
  obtain ⟨z3, r3, rfl, h3, h⟩ := fitAll_cons h
  obtain ⟨z4, r4, rfl, h4, h⟩ := fitAll_cons h
  obtain ⟨z5, r5, rfl, h5, h⟩ := fitAll_cons h
  obtain ⟨z6, r6, rfl, h6, h⟩ := fitAll_cons h
  obtain rfl := fitAll_nil h
  obtain ⟨x1, rfl, w1⟩ := fit_Inst h1
  obtain ⟨x2, rfl, w2⟩ := fit_Pln h2
  obtain ⟨x3, rfl, w3⟩ := fit_Pln h3
  obtain ⟨xs4, rfl, u4, _, v4⟩ := fit_slice Tryz.underlying32 h4; obtain ⟨x4, rfl, w4⟩ := fit_ints v4
  obtain ⟨xs5, rfl, u5, _, v5⟩ := fit_slice Tryz.underlying32 h5; obtain ⟨x5, rfl, w5⟩ := fit_ints v5
  obtain ⟨xs6, rfl, u6, _, v6⟩ := fit_slice Tryz.underlying32 h6; obtain ⟨x6, rfl, w6⟩ := fit_ints v6
  exact lawFOrder_c x1 w1 x2 w2 x3 w3 x4 x5 x6 false false false (by simpa using u4) (by simpa using u5) (by simpa using u6)

set_option maxRecDepth 100000 in
theorem fairOrder_lifted (os : Os) (started : os.Started) (H : Type) (enc : TypeId × Value → H) (F : Stop.Interp) :
    ReturnsInHanded {} Tryz.checked os 10 .any (fun w args => ((Rows.OpenSpec.upto Rows.fairOrderSpec).pre enc Tryz.prog Tryz.f10 Rows.fairOrderUptoRow.domain false w args ∧ laidMetH Tryz.prog laid3 w) ∧ sizedMet enc Tryz.prog Tryz.f10 (Rows.OpenSpec.upto Rows.fairOrderSpec) false w args) (((Rows.OpenSpec.upto Rows.fairOrderSpec).at F).post enc Tryz.prog Tryz.f10 false true false false) := by
  refine handed_laid (C := Tryz.checked) (s := Rows.OpenSpec.upto Rows.fairOrderSpec) (k := Rows.uptoSmall) (X := laidMetH Tryz.prog laid3) rfl own started (by kernel_rfl) Tryz.func10
    (witness_laid (enc := enc) (C := Tryz.checked) (s := Rows.OpenSpec.upto Rows.fairOrderSpec) (k := Rows.uptoSmall) (X := laidMetH Tryz.prog laid3) rfl false (laidW os) #[.agg #[.slice none 0 0, .slice none 0 0, .slice none 0 0, .slice none 0 0, .slice none 0 0, .slice none 0 0], .agg #[.slice none 0 0, .slice none 0 0], .agg #[.slice none 0 0, .slice none 0 0], .slice none 0 0, .slice none 0 0, .slice none 0 0] 8 rfl (by kernel_rfl) (by kernel_rfl) (by kernel_rfl)
      (x := ([.agg [.agg [.nil, .nil], .nil, .nil, .nil, .nil], .agg [.nil, .nil], .agg [.nil, .nil], .nil, .nil, .nil], [], [])) (by kernel_rfl) rfl (by kernel_rfl) (laidW_met os _) (by kernel_rfl)) ?_
  intro W base args ds gs before hval hW _ hk _
  refine law_contract (P := Tryz.prog) (fn := Tryz.f10) (spec := Rows.fairOrderSpec) (tb := 4) (B := 1048576) ?_ rfl laidOut (by kernel_rfl) (by kernel_rfl) Tryz.underlying4 (fun xs h => fairOrder_args h) hval hW (.inr (small_dszs hk))
  intro ds hds
  rw [show Tryz.f10.params.toList = [30, 34, 34, 32, 32, 32] from by rw [Tryz.params10]] at hds
  match ds, hds with
  | [d1, d2, d3, d4, d5, d6], _ => rfl

theorem fairOrder_holds : Rows.FairOrderUptoSaid :=
  OpenClaim.holds_of_cond 10 Tryz.f10 rfl rfl rfl rfl rfl rfl rfl ⟨rfl, rfl, rfl, rfl, rfl⟩ rfl rfl rfl rfl rfl (by kernel_rfl) Tryz.func10 (joined_of globB fairOrder_h1 fairOrder_h2 fairOrder_h3 fairOrder_h4 (by kernel_rfl))
    (of_decide_eq_true (by kernel_rfl)) (by unfold Func.isWrapper; first | (rw [if_pos (by decide +kernel)]; kernel_rfl) | (rw [if_neg (by decide +kernel)]; exact ⟨rfl, rfl⟩))
    (fun os started H enc _ F => fairOrder_lifted os started H enc F)
theorem fairOrder_card : Rows.FairOrderUptoCardSaid :=
  Claim7.holds_tied_plain_at .later [] [.data, .data, .data] true (true, "195ef8421860d3c904b32017d1dd8597365bfa35dcbd13ff5e58ffbc68873c3e") true
    fairOrder_holds (fun _ h => by cases h) (by kernel_rfl) (fun _ h => by cases h) fairOrderUpto_row_tie rfl ⟨rfl, rfl⟩ (by kernel_rfl) rfl
    (fun f fn hf hfn => by
      obtain rfl : f = 10 := Option.some.inj ((show Tryz.prog.funcNamed "lorry/lorrylaw52.FairOrder" = some 10 by kernel_rfl).symm.trans hf) |>.symm
      obtain rfl : fn = Tryz.f10 := (Option.some.inj (Tryz.func10.symm.trans hfn)).symm
      exact ⟨by kernel_rfl, fun j t ht => by
        have hm : t ∈ Tryz.f10.params.toList := List.mem_of_getElem? (by simpa using ht)
        rw [show Tryz.f10.params.toList = [30, 34, 34, 32, 32, 32] from by rw [Tryz.params10]] at hm
        simp only [List.mem_cons, List.not_mem_nil, or_false] at hm
        rcases hm with rfl | rfl | rfl | rfl | rfl | rfl
        · exact (show Tryz.prog.wantsStandIn 30 = false by kernel_rfl)
        · exact (show Tryz.prog.wantsStandIn 34 = false by kernel_rfl)
        · exact (show Tryz.prog.wantsStandIn 34 = false by kernel_rfl)
        · exact (show Tryz.prog.wantsStandIn 32 = false by kernel_rfl)
        · exact (show Tryz.prog.wantsStandIn 32 = false by kernel_rfl)
        · exact (show Tryz.prog.wantsStandIn 32 = false by kernel_rfl)⟩)
    (by kernel_rfl)
end Go.Proofs.YtcllkjiebfmjpaaGreatDoor.K
