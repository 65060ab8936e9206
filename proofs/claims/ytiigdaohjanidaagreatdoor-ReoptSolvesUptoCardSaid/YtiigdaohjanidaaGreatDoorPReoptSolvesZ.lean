
/- The statement ReoptSolvesUptoCardSaid is proved: for every input of bulk at most 1048576 the law ReoptSolves returns true and leaves its arguments as they were. Conditions: the bulk, and what the listed package-level variables hold at the start (the law does not read them), as the given row has it; the card ties the latter to the text of the program by the given tie. -/
import Derived.Test.YtiigdaohjanidaaGreatDoorZ25
import Derived.Test.YtiigdaohjanidaaGreatDoorBG2Z
import Derived.Test.YtiigdaohjanidaaGreatDoorPReoptSolvesAZ
import Derived.Test.YtiigdaohjanidaaGreatDoorPReoptSolvesBZ
import Derived.Test.YtiigdaohjanidaaGreatDoorCards
import Derived.SevenTiedAt
set_option linter.unusedVariables false
set_option linter.unusedSimpArgs false
namespace Go.Proofs.YtiigdaohjanidaaGreatDoor.K
open Go Go.AM Go.Proofs Go.RowKit

theorem reoptSolves_args {xs} (h : AB Tryz.prog 1048576 Tryz.f6.params.toList xs) : ACalls Tryz.prog 6 (xs.map .p) [] fun x H' => x = .p (.bool true) /\ H' = [] := by
  rw [show Tryz.f6.params.toList = [63] from by rw [Tryz.params6]] at h
  obtain ⟨z1, r1, rfl, h1, h⟩ := Lw h
  obtain rfl := NC h
  obtain ⟨x1, rfl, w1⟩ := nA h1
  exact Fx x1 w1

set_option maxRecDepth 100000 in
theorem reoptSolves_lifted (os : Os) (started : os.Started) (H : Type) (enc : TypeId × Value -> H) (F : Stop.Interp) :
    ReturnsInHanded {} Tryz.checked os 6 .any (fun w args => ((Rows.OpenSpec.upto Rows.reoptSolvesSpec).pre enc Tryz.prog Tryz.f6 Rows.reoptSolvesUptoRow.domain false w args /\ laidMetH Tryz.prog Bn w) /\ sizedMet enc Tryz.prog Tryz.f6 (Rows.OpenSpec.upto Rows.reoptSolvesSpec) false w args) (((Rows.OpenSpec.upto Rows.reoptSolvesSpec).at F).post enc Tryz.prog Tryz.f6 false true false false) := by
  refine LF (C := Tryz.checked) (s := Rows.OpenSpec.upto Rows.reoptSolvesSpec) (k := Rows.uptoSmall) (X := laidMetH Tryz.prog Bn) rfl own started (by kernel_rfl) Tryz.func6
    (IA (enc := enc) (C := Tryz.checked) (s := Rows.OpenSpec.upto Rows.reoptSolvesSpec) (k := Rows.uptoSmall) (X := laidMetH Tryz.prog Bn) rfl false (tE os) #[.agg #[.slice none 0 0, .slice none 0 0, .slice none 0 0, .slice none 0 0, .slice none 0 0, .slice none 0 0, .slice none 0 0, .slice none 0 0, .int .i64 0, .slice none 0 0, .slice none 0 0, .slice none 0 0, .slice none 0 0, .slice none 0 0, .slice none 0 0]] 8 rfl (by kernel_rfl) (by kernel_rfl) (by kernel_rfl)
      (x := ([.agg [.agg [.agg [.nil, .nil], .nil, .nil, .nil, .nil], .agg [.nil, .nil], .lit (.int .i64 0), .agg [.agg [.nil, .nil], .nil, .nil, .nil, .nil]]], [], [])) (by kernel_rfl) rfl (by kernel_rfl) (Sa os _) (by kernel_rfl)) ?_
  intro W base args ds gs before hval hW _ hk _ hX
  refine HT (P := Tryz.prog) (fn := Tryz.f6) (spec := Rows.reoptSolvesSpec) (tb := 4) (B := 1048576) ?_ rfl nU (by kernel_rfl) (by kernel_rfl) Tryz.underlying4 (fun xs h => reoptSolves_args h) hval hW (.inr (Oq hk)) (RS hX)
  intro ds hds
  rw [show Tryz.f6.params.toList = [63] from by rw [Tryz.params6]] at hds
  match ds, hds with
  | [d1], _ => rfl

theorem reoptSolves_holds : Rows.ReoptSolvesUptoSaid :=
  OpenClaim.holds_of_cond 6 Tryz.f6 rfl rfl rfl rfl rfl rfl rfl ⟨rfl, rfl, rfl, rfl, rfl⟩ rfl rfl rfl rfl rfl (by kernel_rfl) Tryz.func6 (R7 globB reoptSolves_h1 reoptSolves_h2 reoptSolves_h3 reoptSolves_h4 (by kernel_rfl))
    (of_decide_eq_true (by kernel_rfl)) (by unfold Func.isWrapper; first | (rw [if_pos (by decide +kernel)]; kernel_rfl) | (rw [if_neg (by decide +kernel)]; exact ⟨rfl, rfl⟩))
    (fun os started H enc _ F => reoptSolves_lifted os started H enc F)
theorem reoptSolves_card : Rows.ReoptSolvesUptoCardSaid :=
  Claim7.holds_tied_plain_at .later [] [.data, .data, .data] true (true, "fc6ae7564400a4ccc495708dec3f5f6f0c5f670c02cb8027deb9d52430da8ae4") false
    reoptSolves_holds (fun _ h => by cases h) reoptSolves_k1 (fun _ h => by cases h) reoptSolvesUpto_row_tie rfl ⟨rfl, rfl⟩ reoptSolves_k4 rfl
    (fun f fn hf hfn => by
      obtain rfl : f = 6 := Option.some.inj (reoptSolves_k3.symm.trans hf) |>.symm
      obtain rfl : fn = Tryz.f6 := (Option.some.inj (Tryz.func6.symm.trans hfn)).symm
      exact ⟨reoptSolves_k5, fun j t ht => by
        have hm : t ∈ Tryz.f6.params.toList := List.mem_of_getElem? (by simpa using ht)
        rw [show Tryz.f6.params.toList = [63] from by rw [Tryz.params6]] at hm
        simp only [List.mem_cons, List.not_mem_nil, or_false] at hm
        subst hm; exact (show Tryz.prog.wantsStandIn 63 = false by kernel_rfl)⟩)
    reoptSolves_k2
end Go.Proofs.YtiigdaohjanidaaGreatDoor.K
