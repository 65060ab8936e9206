
/- The statement ExactLeastUptoCardSaid is proved: for every input of bulk at most 1048576 the law ExactLeast returns true and leaves its arguments as they were. Conditions: the bulk, and what the listed package-level variables hold at the start (the law does not read them), as the given row has it; the card ties the latter to the text of the program by the given tie. -/
import Derived.Test.YthmplgaldjpgiaaGreatDoorZ19
import Derived.Test.YthmplgaldjpgiaaGreatDoorBG2Z
import Derived.Test.YthmplgaldjpgiaaGreatDoorPExactLeastAZ
import Derived.Test.YthmplgaldjpgiaaGreatDoorPExactLeastBZ
import Derived.Test.YthmplgaldjpgiaaGreatDoorCards
import Derived.SevenTiedAt
set_option linter.unusedVariables false
set_option linter.unusedSimpArgs false
namespace Go.Proofs.YthmplgaldjpgiaaGreatDoor.K
open Go Go.AM Go.Proofs Go.RowKit

theorem exactLeast_args {xs} (h : US Tryz.prog 1048576 Tryz.f4.params.toList xs) : ACalls Tryz.prog 4 (xs.map .p) [] fun x H' => x = .p (.bool true) /\ H' = [] := by
  rw [show Tryz.f4.params.toList = [30, 36] from by rw [Tryz.params4]] at h
  obtain ⟨z1, r1, rfl, h1, h⟩ := Vl h
  obtain ⟨z2, r2, rfl, h2, h⟩ := Vl h
  obtain rfl := KJ h
  obtain ⟨x1, rfl, w1⟩ := ZdV h1
  obtain ⟨x2, rfl, w2⟩ := Zmn h2
  exact Zfd UU x1 w1 x2 w2

set_option maxRecDepth 100000 in
theorem exactLeast_lifted (os : Os) (started : os.Started) (H : Type) (enc : TypeId × Value -> H) (F : Stop.Interp) :
    ReturnsInHanded {} Tryz.checked os 4 .any (fun w args => ((Rows.OpenSpec.upto Rows.exactLeastSpec).pre enc Tryz.prog Tryz.f4 Rows.exactLeastUptoRow.domain false w args /\ laidMetH Tryz.prog U7 w) /\ sizedMet enc Tryz.prog Tryz.f4 (Rows.OpenSpec.upto Rows.exactLeastSpec) false w args) (((Rows.OpenSpec.upto Rows.exactLeastSpec).at F).post enc Tryz.prog Tryz.f4 false true false false) := by
  refine QQ (C := Tryz.checked) (s := Rows.OpenSpec.upto Rows.exactLeastSpec) (k := Rows.uptoSmall) (X := laidMetH Tryz.prog U7) rfl own started (by kernel_rfl) Tryz.func4
    (U0 (enc := enc) (C := Tryz.checked) (s := Rows.OpenSpec.upto Rows.exactLeastSpec) (k := Rows.uptoSmall) (X := laidMetH Tryz.prog U7) rfl false (Zn1 os) #[.agg #[.slice none 0 0, .slice none 0 0, .slice none 0 0, .slice none 0 0, .slice none 0 0, .slice none 0 0], .agg #[.slice none 0 0, .slice none 0 0]] 8 rfl (by kernel_rfl) (by kernel_rfl) (by kernel_rfl)
      (x := ([.agg [.agg [.nil, .nil], .nil, .nil, .nil, .nil], .agg [.nil, .nil]], [], [])) (by kernel_rfl) rfl (by kernel_rfl) (ZbB os _) (by kernel_rfl)) ?_
  intro W base args ds gs before hval hW _ hk _ hX
  refine UW (P := Tryz.prog) (fn := Tryz.f4) (spec := Rows.exactLeastSpec) (tb := 4) (B := 1048576) ?_ rfl Zit (by kernel_rfl) (by kernel_rfl) Tryz.underlying4 (fun xs h => exactLeast_args h) hval hW (.inr (KA hk)) (ZbT hX)
  intro ds hds
  rw [show Tryz.f4.params.toList = [30, 36] from by rw [Tryz.params4]] at hds
  match ds, hds with
  | [d1, d2], _ => rfl

theorem exactLeast_holds : Rows.ExactLeastUptoSaid :=
  OpenClaim.holds_of_cond 4 Tryz.f4 rfl rfl rfl rfl rfl rfl rfl ⟨rfl, rfl, rfl, rfl, rfl⟩ rfl rfl rfl rfl rfl (by kernel_rfl) Tryz.func4 (ZbQ globB exactLeast_h1 exactLeast_h2 exactLeast_h3 exactLeast_h4 (by kernel_rfl))
    (of_decide_eq_true (by kernel_rfl)) (by unfold Func.isWrapper; first | (rw [if_pos (by decide +kernel)]; kernel_rfl) | (rw [if_neg (by decide +kernel)]; exact ⟨rfl, rfl⟩))
    (fun os started H enc _ F => exactLeast_lifted os started H enc F)
theorem exactLeast_card : Rows.ExactLeastUptoCardSaid :=
  Claim7.holds_tied_plain_at .later [] [.data, .data, .data] true (true, "1e31b3f0cad78b767cc1c6da28160433ffc31461db7f92f3eccdae58a396bfac") false
    exactLeast_holds (fun _ h => by cases h) exactLeast_k1 (fun _ h => by cases h) exactLeastUpto_row_tie rfl ⟨rfl, rfl⟩ exactLeast_k4 rfl
    (fun f fn hf hfn => by
      obtain rfl : f = 4 := Option.some.inj (exactLeast_k3.symm.trans hf) |>.symm
      obtain rfl : fn = Tryz.f4 := (Option.some.inj (Tryz.func4.symm.trans hfn)).symm
      exact ⟨exactLeast_k5, fun j t ht => by
        have hm : t ∈ Tryz.f4.params.toList := List.mem_of_getElem? (by simpa using ht)
        rw [show Tryz.f4.params.toList = [30, 36] from by rw [Tryz.params4]] at hm
        simp only [List.mem_cons, List.not_mem_nil, or_false] at hm
        rcases hm with rfl | rfl
        · exact (show Tryz.prog.wantsStandIn 30 = false by kernel_rfl)
        · exact (show Tryz.prog.wantsStandIn 36 = false by kernel_rfl)⟩)
    exactLeast_k2
end Go.Proofs.YthmplgaldjpgiaaGreatDoor.K
