
/- The statement ExactSolvesUptoCardSaid is proved: for every input of bulk at most 1048576 the law ExactSolves returns true and leaves its arguments as they were. Conditions: the bulk, and what the listed package-level variables hold at the start (the law does not read them), as the given row has it; the card ties the latter to the text of the program by the given tie. -/
import Derived.Test.YthmplgaldjpgiaaGreatDoorZ17
import Derived.Test.YthmplgaldjpgiaaGreatDoorBG2Z
import Derived.Test.YthmplgaldjpgiaaGreatDoorPExactSolvesAZ
import Derived.Test.YthmplgaldjpgiaaGreatDoorPExactSolvesBZ
import Derived.Test.YthmplgaldjpgiaaGreatDoorCards
import Derived.SevenTiedAt
set_option linter.unusedVariables false
set_option linter.unusedSimpArgs false
namespace Go.Proofs.YthmplgaldjpgiaaGreatDoor.K
open Go Go.AM Go.Proofs Go.RowKit

theorem exactSolves_args {xs} (h : QS Tryz.prog 1048576 Tryz.f3.params.toList xs) : ACalls Tryz.prog 3 (xs.map .p) [] fun x H' => x = .p (.bool true) /\ H' = [] := by
  rw [show Tryz.f3.params.toList = [30] from by rw [Tryz.params3]] at h
  obtain ⟨z1, r1, rfl, h1, h⟩ := Zcz h
  obtain rfl := ZfI h
  obtain ⟨x1, rfl, w1⟩ := Zlz h1
  exact ZcU Zbl x1 w1

set_option maxRecDepth 100000 in
theorem exactSolves_lifted (os : Os) (started : os.Started) (H : Type) (enc : TypeId × Value -> H) (F : Stop.Interp) :
    ReturnsInHanded {} Tryz.checked os 3 .any (fun w args => ((Rows.OpenSpec.upto Rows.exactSolvesSpec).pre enc Tryz.prog Tryz.f3 Rows.exactSolvesUptoRow.domain false w args /\ laidMetH Tryz.prog KG w) /\ sizedMet enc Tryz.prog Tryz.f3 (Rows.OpenSpec.upto Rows.exactSolvesSpec) false w args) (((Rows.OpenSpec.upto Rows.exactSolvesSpec).at F).post enc Tryz.prog Tryz.f3 false true false false) := by
  refine ZcH (C := Tryz.checked) (s := Rows.OpenSpec.upto Rows.exactSolvesSpec) (k := Rows.uptoSmall) (X := laidMetH Tryz.prog KG) rfl own started (by kernel_rfl) Tryz.func3
    (ZbM (enc := enc) (C := Tryz.checked) (s := Rows.OpenSpec.upto Rows.exactSolvesSpec) (k := Rows.uptoSmall) (X := laidMetH Tryz.prog KG) rfl false (ZqC os) #[.agg #[.slice none 0 0, .slice none 0 0, .slice none 0 0, .slice none 0 0, .slice none 0 0, .slice none 0 0]] 8 rfl (by kernel_rfl) (by kernel_rfl) (by kernel_rfl)
      (x := ([.agg [.agg [.nil, .nil], .nil, .nil, .nil, .nil]], [], [])) (by kernel_rfl) rfl (by kernel_rfl) (ZhI os _) (by kernel_rfl)) ?_
  intro W base args ds gs before hval hW _ hk _ hX
  refine Zbh (P := Tryz.prog) (fn := Tryz.f3) (spec := Rows.exactSolvesSpec) (tb := 4) (B := 1048576) ?_ rfl ZnA (by kernel_rfl) (by kernel_rfl) Tryz.underlying4 (fun xs h => exactSolves_args h) hval hW (.inr (ZeY hk)) (ZhH hX)
  intro ds hds
  rw [show Tryz.f3.params.toList = [30] from by rw [Tryz.params3]] at hds
  match ds, hds with
  | [d1], _ => rfl

theorem exactSolves_holds : Rows.ExactSolvesUptoSaid :=
  OpenClaim.holds_of_cond 3 Tryz.f3 rfl rfl rfl rfl rfl rfl rfl ⟨rfl, rfl, rfl, rfl, rfl⟩ rfl rfl rfl rfl rfl (by kernel_rfl) Tryz.func3 (Ziy globB exactSolves_h1 exactSolves_h2 exactSolves_h3 exactSolves_h4 (by kernel_rfl))
    (of_decide_eq_true (by kernel_rfl)) (by unfold Func.isWrapper; first | (rw [if_pos (by decide +kernel)]; kernel_rfl) | (rw [if_neg (by decide +kernel)]; exact ⟨rfl, rfl⟩))
    (fun os started H enc _ F => exactSolves_lifted os started H enc F)
theorem exactSolves_card : Rows.ExactSolvesUptoCardSaid :=
  Claim7.holds_tied_plain_at .later [] [.data, .data, .data] true (true, "1e31b3f0cad78b767cc1c6da28160433ffc31461db7f92f3eccdae58a396bfac") false
    exactSolves_holds (fun _ h => by cases h) exactSolves_k1 (fun _ h => by cases h) exactSolvesUpto_row_tie rfl ⟨rfl, rfl⟩ exactSolves_k4 rfl
    (fun f fn hf hfn => by
      obtain rfl : f = 3 := Option.some.inj (exactSolves_k3.symm.trans hf) |>.symm
      obtain rfl : fn = Tryz.f3 := (Option.some.inj (Tryz.func3.symm.trans hfn)).symm
      exact ⟨exactSolves_k5, fun j t ht => by
        have hm : t ∈ Tryz.f3.params.toList := List.mem_of_getElem? (by simpa using ht)
        rw [show Tryz.f3.params.toList = [30] from by rw [Tryz.params3]] at hm
        simp only [List.mem_cons, List.not_mem_nil, or_false] at hm
        subst hm; exact (show Tryz.prog.wantsStandIn 30 = false by kernel_rfl)⟩)
    exactSolves_k2
end Go.Proofs.YthmplgaldjpgiaaGreatDoor.K
