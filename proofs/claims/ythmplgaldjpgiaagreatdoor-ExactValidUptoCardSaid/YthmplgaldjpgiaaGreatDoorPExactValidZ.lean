
/- The statement ExactValidUptoCardSaid is proved: for every input of bulk at most 1048576 the law ExactValid returns true and leaves its arguments as they were. Conditions: the bulk, and what the listed package-level variables hold at the start (the law does not read them), as the given row has it; the card ties the latter to the text of the program by the given tie. -/
import Derived.Test.YthmplgaldjpgiaaGreatDoorZ19
import Derived.Test.YthmplgaldjpgiaaGreatDoorBG2Z
import Derived.Test.YthmplgaldjpgiaaGreatDoorPExactValidAZ
import Derived.Test.YthmplgaldjpgiaaGreatDoorPExactValidBZ
import Derived.Test.YthmplgaldjpgiaaGreatDoorCards
import Derived.SevenTiedAt
set_option linter.unusedVariables false
set_option linter.unusedSimpArgs false
namespace Go.Proofs.YthmplgaldjpgiaaGreatDoor.K
open Go Go.AM Go.Proofs Go.RowKit

theorem exactValid_args {xs} (h : US Tryz.prog 1048576 Tryz.f5.params.toList xs) : ACalls Tryz.prog 5 (xs.map .p) [] fun x H' => x = .p (.bool true) /\ H' = [] := by
  rw [show Tryz.f5.params.toList = [30] from by rw [Tryz.params5]] at h
  obtain ⟨z1, r1, rfl, h1, h⟩ := Vl h
  obtain rfl := KJ h
  obtain ⟨x1, rfl, w1⟩ := ZdV h1
  exact ZeY UU x1 w1

set_option maxRecDepth 100000 in
theorem exactValid_lifted (os : Os) (started : os.Started) (H : Type) (enc : TypeId × Value -> H) (F : Stop.Interp) :
    ReturnsInHanded {} Tryz.checked os 5 .any (fun w args => ((Rows.OpenSpec.upto Rows.exactValidSpec).pre enc Tryz.prog Tryz.f5 Rows.exactValidUptoRow.domain false w args /\ laidMetH Tryz.prog U7 w) /\ sizedMet enc Tryz.prog Tryz.f5 (Rows.OpenSpec.upto Rows.exactValidSpec) false w args) (((Rows.OpenSpec.upto Rows.exactValidSpec).at F).post enc Tryz.prog Tryz.f5 false true false false) := by
  refine QQ (C := Tryz.checked) (s := Rows.OpenSpec.upto Rows.exactValidSpec) (k := Rows.uptoSmall) (X := laidMetH Tryz.prog U7) rfl own started (by kernel_rfl) Tryz.func5
    (U0 (enc := enc) (C := Tryz.checked) (s := Rows.OpenSpec.upto Rows.exactValidSpec) (k := Rows.uptoSmall) (X := laidMetH Tryz.prog U7) rfl false (Zn1 os) #[.agg #[.slice none 0 0, .slice none 0 0, .slice none 0 0, .slice none 0 0, .slice none 0 0, .slice none 0 0]] 8 rfl (by kernel_rfl) (by kernel_rfl) (by kernel_rfl)
      (x := ([.agg [.agg [.nil, .nil], .nil, .nil, .nil, .nil]], [], [])) (by kernel_rfl) rfl (by kernel_rfl) (ZbB os _) (by kernel_rfl)) ?_
  intro W base args ds gs before hval hW _ hk _ hX
  refine UW (P := Tryz.prog) (fn := Tryz.f5) (spec := Rows.exactValidSpec) (tb := 4) (B := 1048576) ?_ rfl Zit (by kernel_rfl) (by kernel_rfl) Tryz.underlying4 (fun xs h => exactValid_args h) hval hW (.inr (KA hk)) (ZbT hX)
  intro ds hds
  rw [show Tryz.f5.params.toList = [30] from by rw [Tryz.params5]] at hds
  match ds, hds with
  | [d1], _ => rfl

theorem exactValid_holds : Rows.ExactValidUptoSaid :=
  OpenClaim.holds_of_cond 5 Tryz.f5 rfl rfl rfl rfl rfl rfl rfl ⟨rfl, rfl, rfl, rfl, rfl⟩ rfl rfl rfl rfl rfl (by kernel_rfl) Tryz.func5 (ZbQ globB exactValid_h1 exactValid_h2 exactValid_h3 exactValid_h4 (by kernel_rfl))
    (of_decide_eq_true (by kernel_rfl)) (by unfold Func.isWrapper; first | (rw [if_pos (by decide +kernel)]; kernel_rfl) | (rw [if_neg (by decide +kernel)]; exact ⟨rfl, rfl⟩))
    (fun os started H enc _ F => exactValid_lifted os started H enc F)
theorem exactValid_card : Rows.ExactValidUptoCardSaid :=
  Claim7.holds_tied_plain_at .later [] [.data, .data, .data] true (true, "1e31b3f0cad78b767cc1c6da28160433ffc31461db7f92f3eccdae58a396bfac") false
    exactValid_holds (fun _ h => by cases h) exactValid_k1 (fun _ h => by cases h) exactValidUpto_row_tie rfl ⟨rfl, rfl⟩ exactValid_k4 rfl
    (fun f fn hf hfn => by
      obtain rfl : f = 5 := Option.some.inj (exactValid_k3.symm.trans hf) |>.symm
      obtain rfl : fn = Tryz.f5 := (Option.some.inj (Tryz.func5.symm.trans hfn)).symm
      exact ⟨exactValid_k5, fun j t ht => by
        have hm : t ∈ Tryz.f5.params.toList := List.mem_of_getElem? (by simpa using ht)
        rw [show Tryz.f5.params.toList = [30] from by rw [Tryz.params5]] at hm
        simp only [List.mem_cons, List.not_mem_nil, or_false] at hm
        subst hm; exact (show Tryz.prog.wantsStandIn 30 = false by kernel_rfl)⟩)
    exactValid_k2
end Go.Proofs.YthmplgaldjpgiaaGreatDoor.K
