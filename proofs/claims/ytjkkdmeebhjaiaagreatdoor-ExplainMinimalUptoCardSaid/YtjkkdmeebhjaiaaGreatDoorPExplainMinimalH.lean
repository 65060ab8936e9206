
/- The statement ExplainMinimalUptoCardSaid is proved: for every input of bulk at most 1048576 the law ExplainMinimal returns true and leaves its arguments as they were. Conditions: the bulk, and what the listed package-level variables hold at the start (the law does not read them), as the given row has it; the card ties the latter to the text of the program by the given tie. -/
import Derived.Test.YtjkkdmeebhjaiaaGreatDoorH19
import Derived.Test.YtjkkdmeebhjaiaaGreatDoorBG2H
import Derived.Test.YtjkkdmeebhjaiaaGreatDoorPExplainMinimalAH
import Derived.Test.YtjkkdmeebhjaiaaGreatDoorPExplainMinimalBH
import Derived.Test.YtjkkdmeebhjaiaaGreatDoorCards
import Derived.SevenTiedAt
set_option linter.unusedVariables false
set_option linter.unusedSimpArgs false
namespace Go.Proofs.YtjkkdmeebhjaiaaGreatDoor.K
open Go Go.AM Go.Proofs Go.RowKit

theorem explainMinimal_args {xs} (h : Bv Tryz.prog 1048576 Tryz.f6.params.toList xs) : ACalls Tryz.prog 6 (xs.map .p) [] fun x H' => x = .p (.bool true) /\ H' = [] := by
  rw [show Tryz.f6.params.toList = [30, 3] from by rw [Tryz.params6]] at h
  obtain ⟨z1, r1, rfl, h1, h⟩ := Eo h
  obtain ⟨z2, r2, rfl, h2, h⟩ := Eo h
  obtain rfl := PX h
  obtain ⟨x1, rfl, w1⟩ := jU h1
  obtain ⟨x2, rfl, w2⟩ := SD Tryz.underlying3 h2; have w2 := XK w2
  exact Gf x1 w1 x2

set_option maxRecDepth 100000 in
theorem explainMinimal_lifted (os : Os) (started : os.Started) (H : Type) (enc : TypeId × Value -> H) (F : Stop.Interp) :
    ReturnsInHanded {} Tryz.checked os 6 .any (fun w args => ((Rows.OpenSpec.upto Rows.explainMinimalSpec).pre enc Tryz.prog Tryz.f6 Rows.explainMinimalUptoRow.domain false w args /\ laidMetH Tryz.prog Cy w) /\ sizedMet enc Tryz.prog Tryz.f6 (Rows.OpenSpec.upto Rows.explainMinimalSpec) false w args) (((Rows.OpenSpec.upto Rows.explainMinimalSpec).at F).post enc Tryz.prog Tryz.f6 false true false false) := by
  refine NB (C := Tryz.checked) (s := Rows.OpenSpec.upto Rows.explainMinimalSpec) (k := Rows.uptoSmall) (X := laidMetH Tryz.prog Cy) rfl own started (by kernel_rfl) Tryz.func6
    (MC (enc := enc) (C := Tryz.checked) (s := Rows.OpenSpec.upto Rows.explainMinimalSpec) (k := Rows.uptoSmall) (X := laidMetH Tryz.prog Cy) rfl false (yC os) #[.agg #[.slice none 0 0, .slice none 0 0, .slice none 0 0, .slice none 0 0, .slice none 0 0, .slice none 0 0], .int .i64 0] 8 rfl (by kernel_rfl) (by kernel_rfl) (by kernel_rfl)
      (x := ([.agg [.agg [.nil, .nil], .nil, .nil, .nil, .nil], .lit (.int .i64 0)], [], [])) (by kernel_rfl) rfl (by kernel_rfl) (bZ os _) (by kernel_rfl)) ?_
  intro W base args ds gs before hval hW _ hk _ hX
  refine LS (P := Tryz.prog) (fn := Tryz.f6) (spec := Rows.explainMinimalSpec) (tb := 4) (B := 1048576) ?_ rfl tQ (by kernel_rfl) (by kernel_rfl) Tryz.underlying4 (fun xs h => explainMinimal_args h) hval hW (.inr (RM hk)) (aZ hX)
  intro ds hds
  rw [show Tryz.f6.params.toList = [30, 3] from by rw [Tryz.params6]] at hds
  match ds, hds with
  | [d1, d2], _ => rfl

theorem explainMinimal_holds : Rows.ExplainMinimalUptoSaid :=
  OpenClaim.holds_of_cond 6 Tryz.f6 rfl rfl rfl rfl rfl rfl rfl ⟨rfl, rfl, rfl, rfl, rfl⟩ rfl rfl rfl rfl rfl (by kernel_rfl) Tryz.func6 (bS globB explainMinimal_h1 explainMinimal_h2 explainMinimal_h3 explainMinimal_h4 (by kernel_rfl))
    (of_decide_eq_true (by kernel_rfl)) (by unfold Func.isWrapper; first | (rw [if_pos (by decide +kernel)]; kernel_rfl) | (rw [if_neg (by decide +kernel)]; exact ⟨rfl, rfl⟩))
    (fun os started H enc _ F => explainMinimal_lifted os started H enc F)
theorem explainMinimal_card : Rows.ExplainMinimalUptoCardSaid :=
  Claim7.holds_tied_plain_at .later [] [.data, .data, .data] true (true, "ad4b7874777524824feb8b799edab471e4194b16822c0824ba3771b55d9be586") false
    explainMinimal_holds (fun _ h => by cases h) explainMinimal_k1 (fun _ h => by cases h) explainMinimalUpto_row_tie rfl ⟨rfl, rfl⟩ explainMinimal_k4 rfl
    (fun f fn hf hfn => by
      obtain rfl : f = 6 := Option.some.inj (explainMinimal_k3.symm.trans hf) |>.symm
      obtain rfl : fn = Tryz.f6 := (Option.some.inj (Tryz.func6.symm.trans hfn)).symm
      exact ⟨explainMinimal_k5, fun j t ht => by
        have hm : t ∈ Tryz.f6.params.toList := List.mem_of_getElem? (by simpa using ht)
        rw [show Tryz.f6.params.toList = [30, 3] from by rw [Tryz.params6]] at hm
        simp only [List.mem_cons, List.not_mem_nil, or_false] at hm
        rcases hm with rfl | rfl
        · exact (show Tryz.prog.wantsStandIn 30 = false by kernel_rfl)
        · exact (show Tryz.prog.wantsStandIn 3 = false by kernel_rfl)⟩)
    explainMinimal_k2
end Go.Proofs.YtjkkdmeebhjaiaaGreatDoor.K
