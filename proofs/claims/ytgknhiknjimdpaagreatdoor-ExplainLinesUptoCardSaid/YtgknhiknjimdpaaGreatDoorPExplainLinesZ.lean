
/- The statement ExplainLinesUptoCardSaid is proved: for every input of bulk at most 1048576 the law ExplainLines returns true and leaves its arguments as they were. Conditions: the bulk, and what the listed package-level variables hold at the start (the law does not read them), as the given row has it; the card ties the latter to the text of the program by the given tie. -/
import Derived.Test.YtgknhiknjimdpaaGreatDoorZ15
import Derived.Test.YtgknhiknjimdpaaGreatDoorBG2Z
import Derived.Test.YtgknhiknjimdpaaGreatDoorPExplainLinesAZ
import Derived.Test.YtgknhiknjimdpaaGreatDoorPExplainLinesBZ
import Derived.Test.YtgknhiknjimdpaaGreatDoorCards
import Derived.SevenTiedAt
set_option linter.unusedVariables false
set_option linter.unusedSimpArgs false
namespace Go.Proofs.YtgknhiknjimdpaaGreatDoor.K
open Go Go.AM Go.Proofs Go.RowKit

theorem explainLines_args {xs} (h : Y9 Tryz.prog 1048576 Tryz.f4.params.toList xs) : ACalls Tryz.prog 4 (xs.map .p) [] fun x H' => x = .p (.bool true) /\ H' = [] := by
  rw [show Tryz.f4.params.toList = [30, 46] from by rw [Tryz.params4]] at h
  obtain ⟨z1, r1, rfl, h1, h⟩ := Wf h
  obtain ⟨z2, r2, rfl, h2, h⟩ := Wf h
  obtain rfl := Jb h
  obtain ⟨x1, rfl, w1⟩ := ZaN h1
  obtain ⟨x2, rfl, w2, u2⟩ := Zax h2
  exact VD x1 w1 x2 false w2

set_option maxRecDepth 100000 in
theorem explainLines_lifted (os : Os) (started : os.Started) (H : Type) (enc : TypeId × Value -> H) (F : Stop.Interp) :
    ReturnsInHanded {} Tryz.checked os 4 .any (fun w args => ((Rows.OpenSpec.upto Rows.explainLinesSpec).pre enc Tryz.prog Tryz.f4 Rows.explainLinesUptoRow.domain false w args /\ laidMetH Tryz.prog W9 w) /\ sizedMet enc Tryz.prog Tryz.f4 (Rows.OpenSpec.upto Rows.explainLinesSpec) false w args) (((Rows.OpenSpec.upto Rows.explainLinesSpec).at F).post enc Tryz.prog Tryz.f4 false true false false) := by
  refine UV (C := Tryz.checked) (s := Rows.OpenSpec.upto Rows.explainLinesSpec) (k := Rows.uptoSmall) (X := laidMetH Tryz.prog W9) rfl own started (by kernel_rfl) Tryz.func4
    (Un (enc := enc) (C := Tryz.checked) (s := Rows.OpenSpec.upto Rows.explainLinesSpec) (k := Rows.uptoSmall) (X := laidMetH Tryz.prog W9) rfl false (ZdV os) #[.agg #[.slice none 0 0, .slice none 0 0, .slice none 0 0, .slice none 0 0, .slice none 0 0, .slice none 0 0], .slice none 0 0] 8 rfl (by kernel_rfl) (by kernel_rfl) (by kernel_rfl)
      (x := ([.agg [.agg [.nil, .nil], .nil, .nil, .nil, .nil], .nil], [], [])) (by kernel_rfl) rfl (by kernel_rfl) (Ju os _) (by kernel_rfl)) ?_
  intro W base args ds gs before hval hW _ hk _ hX
  refine Ul (P := Tryz.prog) (fn := Tryz.f4) (spec := Rows.explainLinesSpec) (tb := 4) (B := 1048576) ?_ rfl Zb0 (by kernel_rfl) (by kernel_rfl) Tryz.underlying4 (fun xs h => explainLines_args h) hval hW (.inr (QI hk)) (KE hX)
  intro ds hds
  rw [show Tryz.f4.params.toList = [30, 46] from by rw [Tryz.params4]] at hds
  match ds, hds with
  | [d1, d2], _ => rfl

theorem explainLines_holds : Rows.ExplainLinesUptoSaid :=
  OpenClaim.holds_of_cond 4 Tryz.f4 rfl rfl rfl rfl rfl rfl rfl ⟨rfl, rfl, rfl, rfl, rfl⟩ rfl rfl rfl rfl rfl (by kernel_rfl) Tryz.func4 (Js globB explainLines_h1 explainLines_h2 explainLines_h3 explainLines_h4 (by kernel_rfl))
    (of_decide_eq_true (by kernel_rfl)) (by unfold Func.isWrapper; first | (rw [if_pos (by decide +kernel)]; kernel_rfl) | (rw [if_neg (by decide +kernel)]; exact ⟨rfl, rfl⟩))
    (fun os started H enc _ F => explainLines_lifted os started H enc F)
theorem explainLines_card : Rows.ExplainLinesUptoCardSaid :=
  Claim7.holds_tied_plain_at .later [] [.data, .data, .data] true (true, "3898d2af7178e41d210d0ade5173cbbce815fdbadb69ba2be7effd11b6b2e3f4") false
    explainLines_holds (fun _ h => by cases h) explainLines_k1 (fun _ h => by cases h) explainLinesUpto_row_tie rfl ⟨rfl, rfl⟩ explainLines_k4 rfl
    (fun f fn hf hfn => by
      obtain rfl : f = 4 := Option.some.inj (explainLines_k3.symm.trans hf) |>.symm
      obtain rfl : fn = Tryz.f4 := (Option.some.inj (Tryz.func4.symm.trans hfn)).symm
      exact ⟨explainLines_k5, fun j t ht => by
        have hm : t ∈ Tryz.f4.params.toList := List.mem_of_getElem? (by simpa using ht)
        rw [show Tryz.f4.params.toList = [30, 46] from by rw [Tryz.params4]] at hm
        simp only [List.mem_cons, List.not_mem_nil, or_false] at hm
        rcases hm with rfl | rfl
        · exact (show Tryz.prog.wantsStandIn 30 = false by kernel_rfl)
        · exact (show Tryz.prog.wantsStandIn 46 = false by kernel_rfl)⟩)
    explainLines_k2
end Go.Proofs.YtgknhiknjimdpaaGreatDoor.K
