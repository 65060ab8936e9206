
/- The statement ExplainPricesUptoCardSaid is proved: for every input of bulk at most 1048576 the law ExplainPrices returns true and leaves its arguments as they were. Conditions: the bulk, and what the listed package-level variables hold at the start (the law does not read them), as the given row has it; the card ties the latter to the text of the program by the given tie. -/
import Derived.Test.YtjkkdmeebhjaiaaGreatDoorS19
import Derived.Test.YtjkkdmeebhjaiaaGreatDoorBG2S
import Derived.Test.YtjkkdmeebhjaiaaGreatDoorPExplainPricesAS
import Derived.Test.YtjkkdmeebhjaiaaGreatDoorPExplainPricesBS
import Derived.Test.YtjkkdmeebhjaiaaGreatDoorCards
import Derived.SevenTiedAt
set_option linter.unusedVariables false
set_option linter.unusedSimpArgs false
namespace Go.Proofs.YtjkkdmeebhjaiaaGreatDoor.K
open Go Go.AM Go.Proofs Go.RowKit

theorem explainPrices_args {xs} (h : Be Tryz.prog 1048576 Tryz.f7.params.toList xs) : ACalls Tryz.prog 7 (xs.map .p) [] fun x H' => x = .p (.bool true) /\ H' = [] := by
  rw [show Tryz.f7.params.toList = [30, 3] from by rw [Tryz.params7]] at h
  obtain ⟨z1, r1, rfl, h1, h⟩ := D0 h
  obtain ⟨z2, r2, rfl, h2, h⟩ := D0 h
  obtain rfl := Ph h
  obtain ⟨x1, rfl, w1⟩ := gQ h1
  obtain ⟨x2, rfl, w2⟩ := RY Tryz.underlying3 h2; have w2 := Xz w2
  exact G3 x1 w1 x2

set_option maxRecDepth 100000 in
theorem explainPrices_lifted (os : Os) (started : os.Started) (H : Type) (enc : TypeId × Value -> H) (F : Stop.Interp) :
    ReturnsInHanded {} Tryz.checked os 7 .any (fun w args => ((Rows.OpenSpec.upto Rows.explainPricesSpec).pre enc Tryz.prog Tryz.f7 Rows.explainPricesUptoRow.domain false w args /\ laidMetH Tryz.prog Cf w) /\ sizedMet enc Tryz.prog Tryz.f7 (Rows.OpenSpec.upto Rows.explainPricesSpec) false w args) (((Rows.OpenSpec.upto Rows.explainPricesSpec).at F).post enc Tryz.prog Tryz.f7 false true false false) := by
  refine M0 (C := Tryz.checked) (s := Rows.OpenSpec.upto Rows.explainPricesSpec) (k := Rows.uptoSmall) (X := laidMetH Tryz.prog Cf) rfl own started (by kernel_rfl) Tryz.func7
    (L5 (enc := enc) (C := Tryz.checked) (s := Rows.OpenSpec.upto Rows.explainPricesSpec) (k := Rows.uptoSmall) (X := laidMetH Tryz.prog Cf) rfl false (vO os) #[.agg #[.slice none 0 0, .slice none 0 0, .slice none 0 0, .slice none 0 0, .slice none 0 0, .slice none 0 0], .int .i64 0] 8 rfl (by kernel_rfl) (by kernel_rfl) (by kernel_rfl)
      (x := ([.agg [.agg [.nil, .nil], .nil, .nil, .nil, .nil], .lit (.int .i64 0)], [], [])) (by kernel_rfl) rfl (by kernel_rfl) (T9 os _) (by kernel_rfl)) ?_
  intro W base args ds gs before hval hW _ hk _ hX
  refine Ll (P := Tryz.prog) (fn := Tryz.f7) (spec := Rows.explainPricesSpec) (tb := 4) (B := 1048576) ?_ rfl qX (by kernel_rfl) (by kernel_rfl) Tryz.underlying4 (fun xs h => explainPrices_args h) hval hW (.inr (P9 hk)) (TO hX)
  intro ds hds
  rw [show Tryz.f7.params.toList = [30, 3] from by rw [Tryz.params7]] at hds
  match ds, hds with
  | [d1, d2], _ => rfl

theorem explainPrices_holds : Rows.ExplainPricesUptoSaid :=
  OpenClaim.holds_of_cond 7 Tryz.f7 rfl rfl rfl rfl rfl rfl rfl ⟨rfl, rfl, rfl, rfl, rfl⟩ rfl rfl rfl rfl rfl (by kernel_rfl) Tryz.func7 (T4 globB explainPrices_h1 explainPrices_h2 explainPrices_h3 explainPrices_h4 (by kernel_rfl))
    (of_decide_eq_true (by kernel_rfl)) (by unfold Func.isWrapper; first | (rw [if_pos (by decide +kernel)]; kernel_rfl) | (rw [if_neg (by decide +kernel)]; exact ⟨rfl, rfl⟩))
    (fun os started H enc _ F => explainPrices_lifted os started H enc F)
theorem explainPrices_card : Rows.ExplainPricesUptoCardSaid :=
  Claim7.holds_tied_plain_at .later [] [.data, .data, .data] true (true, "ad4b7874777524824feb8b799edab471e4194b16822c0824ba3771b55d9be586") false
    explainPrices_holds (fun _ h => by cases h) explainPrices_k1 (fun _ h => by cases h) explainPricesUpto_row_tie rfl ⟨rfl, rfl⟩ explainPrices_k4 rfl
    (fun f fn hf hfn => by
      obtain rfl : f = 7 := Option.some.inj (explainPrices_k3.symm.trans hf) |>.symm
      obtain rfl : fn = Tryz.f7 := (Option.some.inj (Tryz.func7.symm.trans hfn)).symm
      exact ⟨explainPrices_k5, fun j t ht => by
        have hm : t ∈ Tryz.f7.params.toList := List.mem_of_getElem? (by simpa using ht)
        rw [show Tryz.f7.params.toList = [30, 3] from by rw [Tryz.params7]] at hm
        simp only [List.mem_cons, List.not_mem_nil, or_false] at hm
        rcases hm with rfl | rfl
        · exact (show Tryz.prog.wantsStandIn 30 = false by kernel_rfl)
        · exact (show Tryz.prog.wantsStandIn 3 = false by kernel_rfl)⟩)
    explainPrices_k2
end Go.Proofs.YtjkkdmeebhjaiaaGreatDoor.K
