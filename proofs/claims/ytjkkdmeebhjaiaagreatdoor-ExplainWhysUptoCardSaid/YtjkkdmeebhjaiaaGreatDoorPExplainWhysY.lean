
/- The statement ExplainWhysUptoCardSaid is proved: for every input of bulk at most 1048576 the law ExplainWhys returns true and leaves its arguments as they were. Conditions: the bulk, and what the listed package-level variables hold at the start (the law does not read them), as the given row has it; the card ties the latter to the text of the program by the given tie. -/
import Derived.Test.YtjkkdmeebhjaiaaGreatDoorY19
import Derived.Test.YtjkkdmeebhjaiaaGreatDoorBG2Y
import Derived.Test.YtjkkdmeebhjaiaaGreatDoorPExplainWhysAY
import Derived.Test.YtjkkdmeebhjaiaaGreatDoorPExplainWhysBY
import Derived.Test.YtjkkdmeebhjaiaaGreatDoorCards
import Derived.SevenTiedAt
set_option linter.unusedVariables false
set_option linter.unusedSimpArgs false
namespace Go.Proofs.YtjkkdmeebhjaiaaGreatDoor.K
open Go Go.AM Go.Proofs Go.RowKit

theorem explainWhys_args {xs} (h : AW Tryz.prog 1048576 Tryz.f5.params.toList xs) : ACalls Tryz.prog 5 (xs.map .p) [] fun x H' => x = .p (.bool true) /\ H' = [] := by
  rw [show Tryz.f5.params.toList = [30, 3] from by rw [Tryz.params5]] at h
  obtain ⟨z1, r1, rfl, h1, h⟩ := DE h
  obtain ⟨z2, r2, rfl, h2, h⟩ := DE h
  obtain rfl := OQ h
  obtain ⟨x1, rfl, w1⟩ := fH h1
  obtain ⟨x2, rfl, w2⟩ := Rq Tryz.underlying3 h2; have w2 := Xv w2
  exact MP x1 w1 x2

set_option maxRecDepth 100000 in
theorem explainWhys_lifted (os : Os) (started : os.Started) (H : Type) (enc : TypeId × Value -> H) (F : Stop.Interp) :
    ReturnsInHanded {} Tryz.checked os 5 .any (fun w args => ((Rows.OpenSpec.upto Rows.explainWhysSpec).pre enc Tryz.prog Tryz.f5 Rows.explainWhysUptoRow.domain false w args /\ laidMetH Tryz.prog BT w) /\ sizedMet enc Tryz.prog Tryz.f5 (Rows.OpenSpec.upto Rows.explainWhysSpec) false w args) (((Rows.OpenSpec.upto Rows.explainWhysSpec).at F).post enc Tryz.prog Tryz.f5 false true false false) := by
  refine MD (C := Tryz.checked) (s := Rows.OpenSpec.upto Rows.explainWhysSpec) (k := Rows.uptoSmall) (X := laidMetH Tryz.prog BT) rfl own started (by kernel_rfl) Tryz.func5
    (LD (enc := enc) (C := Tryz.checked) (s := Rows.OpenSpec.upto Rows.explainWhysSpec) (k := Rows.uptoSmall) (X := laidMetH Tryz.prog BT) rfl false (tU os) #[.agg #[.slice none 0 0, .slice none 0 0, .slice none 0 0, .slice none 0 0, .slice none 0 0, .slice none 0 0], .int .i64 0] 8 rfl (by kernel_rfl) (by kernel_rfl) (by kernel_rfl)
      (x := ([.agg [.agg [.nil, .nil], .nil, .nil, .nil, .nil], .lit (.int .i64 0)], [], [])) (by kernel_rfl) rfl (by kernel_rfl) (TC os _) (by kernel_rfl)) ?_
  intro W base args ds gs before hval hW _ hk _ hX
  refine IT (P := Tryz.prog) (fn := Tryz.f5) (spec := Rows.explainWhysSpec) (tb := 4) (B := 1048576) ?_ rfl pL (by kernel_rfl) (by kernel_rfl) Tryz.underlying4 (fun xs h => explainWhys_args h) hval hW (.inr (PB hk)) (Td hX)
  intro ds hds
  rw [show Tryz.f5.params.toList = [30, 3] from by rw [Tryz.params5]] at hds
  match ds, hds with
  | [d1, d2], _ => rfl

theorem explainWhys_holds : Rows.ExplainWhysUptoSaid :=
  OpenClaim.holds_of_cond 5 Tryz.f5 rfl rfl rfl rfl rfl rfl rfl ⟨rfl, rfl, rfl, rfl, rfl⟩ rfl rfl rfl rfl rfl (by kernel_rfl) Tryz.func5 (Tx globB explainWhys_h1 explainWhys_h2 explainWhys_h3 explainWhys_h4 (by kernel_rfl))
    (of_decide_eq_true (by kernel_rfl)) (by unfold Func.isWrapper; first | (rw [if_pos (by decide +kernel)]; kernel_rfl) | (rw [if_neg (by decide +kernel)]; exact ⟨rfl, rfl⟩))
    (fun os started H enc _ F => explainWhys_lifted os started H enc F)
theorem explainWhys_card : Rows.ExplainWhysUptoCardSaid :=
  Claim7.holds_tied_plain_at .later [] [.data, .data, .data] true (true, "ad4b7874777524824feb8b799edab471e4194b16822c0824ba3771b55d9be586") false
    explainWhys_holds (fun _ h => by cases h) explainWhys_k1 (fun _ h => by cases h) explainWhysUpto_row_tie rfl ⟨rfl, rfl⟩ explainWhys_k4 rfl
    (fun f fn hf hfn => by
      obtain rfl : f = 5 := Option.some.inj (explainWhys_k3.symm.trans hf) |>.symm
      obtain rfl : fn = Tryz.f5 := (Option.some.inj (Tryz.func5.symm.trans hfn)).symm
      exact ⟨explainWhys_k5, fun j t ht => by
        have hm : t ∈ Tryz.f5.params.toList := List.mem_of_getElem? (by simpa using ht)
        rw [show Tryz.f5.params.toList = [30, 3] from by rw [Tryz.params5]] at hm
        simp only [List.mem_cons, List.not_mem_nil, or_false] at hm
        rcases hm with rfl | rfl
        · exact (show Tryz.prog.wantsStandIn 30 = false by kernel_rfl)
        · exact (show Tryz.prog.wantsStandIn 3 = false by kernel_rfl)⟩)
    explainWhys_k2
end Go.Proofs.YtjkkdmeebhjaiaaGreatDoor.K
