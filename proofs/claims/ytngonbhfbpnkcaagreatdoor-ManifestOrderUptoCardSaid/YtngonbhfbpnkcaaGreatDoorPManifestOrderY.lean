
/- The statement ManifestOrderUptoCardSaid is proved: for every input of bulk at most 1048576 the law ManifestOrder returns true and leaves its arguments as they were. Conditions: the bulk, and what the listed package-level variables hold at the start (the law does not read them), as the given row has it; the card ties the latter to the text of the program by the given tie. -/
import Derived.Test.YtngonbhfbpnkcaaGreatDoorY18
import Derived.Test.YtngonbhfbpnkcaaGreatDoorBG2Y
import Derived.Test.YtngonbhfbpnkcaaGreatDoorPManifestOrderAY
import Derived.Test.YtngonbhfbpnkcaaGreatDoorPManifestOrderBY
import Derived.Test.YtngonbhfbpnkcaaGreatDoorCards
import Derived.SevenTiedAt
set_option linter.unusedVariables false
set_option linter.unusedSimpArgs false
namespace Go.Proofs.YtngonbhfbpnkcaaGreatDoor.K
open Go Go.AM Go.Proofs Go.RowKit

theorem manifestOrder_args {xs} (h : FitAll Tryz.prog 1048576 Tryz.f6.params.toList xs) : ACalls Tryz.prog 6 (xs.map .p) [] fun x H' => x = .p (.bool true) ∧ H' = [] := by
  rw [show Tryz.f6.params.toList = [30, 34] from by rw [Tryz.params6]] at h
  obtain ⟨z1, r1, rfl, h1, h⟩ := fitAll_cons h
  obtain ⟨z2, r2, rfl, h2, h⟩ := fitAll_cons h
  obtain rfl := fitAll_nil h
  obtain ⟨x1, rfl, w1⟩ := fit_Inst h1
  obtain ⟨x2, rfl, w2⟩ := fit_Pln h2
  exact lawMOrder_c x1 w1 x2 w2

set_option maxRecDepth 100000 in
theorem manifestOrder_lifted (os : Os) (started : os.Started) (H : Type) (enc : TypeId × Value → H) (F : Stop.Interp) :
    ReturnsInHanded {} Tryz.checked os 6 .any (fun w args => ((Rows.OpenSpec.upto Rows.manifestOrderSpec).pre enc Tryz.prog Tryz.f6 Rows.manifestOrderUptoRow.domain false w args ∧ laidMetH Tryz.prog laid3 w) ∧ sizedMet enc Tryz.prog Tryz.f6 (Rows.OpenSpec.upto Rows.manifestOrderSpec) false w args) (((Rows.OpenSpec.upto Rows.manifestOrderSpec).at F).post enc Tryz.prog Tryz.f6 false true false false) := by
  refine handed_laid (C := Tryz.checked) (s := Rows.OpenSpec.upto Rows.manifestOrderSpec) (k := Rows.uptoSmall) (X := laidMetH Tryz.prog laid3) rfl own started (by kernel_rfl) Tryz.func6
    (witness_laid (enc := enc) (C := Tryz.checked) (s := Rows.OpenSpec.upto Rows.manifestOrderSpec) (k := Rows.uptoSmall) (X := laidMetH Tryz.prog laid3) rfl false (laidW os) #[.agg #[.slice none 0 0, .slice none 0 0, .slice none 0 0, .slice none 0 0, .slice none 0 0, .slice none 0 0], .agg #[.slice none 0 0, .slice none 0 0]] 8 rfl (by kernel_rfl) (by kernel_rfl) (by kernel_rfl)
      (x := ([.agg [.agg [.nil, .nil], .nil, .nil, .nil, .nil], .agg [.nil, .nil]], [], [])) (by kernel_rfl) rfl (by kernel_rfl) (laidW_met os _) (by kernel_rfl)) ?_
  intro W base args ds gs before hval hW _ hk _
  refine law_contract (P := Tryz.prog) (fn := Tryz.f6) (spec := Rows.manifestOrderSpec) (tb := 4) (B := 1048576) ?_ rfl laidOut (by kernel_rfl) (by kernel_rfl) Tryz.underlying4 (fun xs h => manifestOrder_args h) hval hW (.inr (small_dszs hk))
  intro ds hds
  rw [show Tryz.f6.params.toList = [30, 34] from by rw [Tryz.params6]] at hds
  match ds, hds with
  | [d1, d2], _ => rfl

theorem manifestOrder_holds : Rows.ManifestOrderUptoSaid :=
  OpenClaim.holds_of_cond 6 Tryz.f6 rfl rfl rfl rfl rfl rfl rfl ⟨rfl, rfl, rfl, rfl, rfl⟩ rfl rfl rfl rfl rfl (by kernel_rfl) Tryz.func6 (joined_of globB manifestOrder_h1 manifestOrder_h2 manifestOrder_h3 manifestOrder_h4 (by kernel_rfl))
    (of_decide_eq_true (by kernel_rfl)) (by unfold Func.isWrapper; first | (rw [if_pos (by decide +kernel)]; kernel_rfl) | (rw [if_neg (by decide +kernel)]; exact ⟨rfl, rfl⟩))
    (fun os started H enc _ F => manifestOrder_lifted os started H enc F)
theorem manifestOrder_card : Rows.ManifestOrderUptoCardSaid :=
  Claim7.holds_tied_plain_at .later [] [.data, .data, .data] true (true, "724531d32426ce654e7285be7fbb7bbb0ff51425ea23325b0915c31279d6a94b") true
    manifestOrder_holds (fun _ h => by cases h) manifestOrder_k1 (fun _ h => by cases h) manifestOrderUpto_row_tie rfl ⟨rfl, rfl⟩ manifestOrder_k4 rfl
    (fun f fn hf hfn => by
      obtain rfl : f = 6 := Option.some.inj (manifestOrder_k3.symm.trans hf) |>.symm
      obtain rfl : fn = Tryz.f6 := (Option.some.inj (Tryz.func6.symm.trans hfn)).symm
      exact ⟨manifestOrder_k5, fun j t ht => by
        have hm : t ∈ Tryz.f6.params.toList := List.mem_of_getElem? (by simpa using ht)
        rw [show Tryz.f6.params.toList = [30, 34] from by rw [Tryz.params6]] at hm
        simp only [List.mem_cons, List.not_mem_nil, or_false] at hm
        rcases hm with rfl | rfl
        · exact (show Tryz.prog.wantsStandIn 30 = false by kernel_rfl)
        · exact (show Tryz.prog.wantsStandIn 34 = false by kernel_rfl)⟩)
    manifestOrder_k2
end Go.Proofs.YtngonbhfbpnkcaaGreatDoor.K
