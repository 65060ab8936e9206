
/- The statement WeekOthersUptoCardSaid is proved: for every input of bulk at most 1048576 the law WeekOthers returns true and leaves its arguments as they were. Conditions: the bulk, and what the listed package-level variables hold at the start (the law does not read them), as the given row has it; the card ties the latter to the text of the program by the given tie. -/
import Derived.Test.YtiigdaohjanidaaGreatDoorH24
import Derived.Test.YtiigdaohjanidaaGreatDoorBG2H
import Derived.Test.YtiigdaohjanidaaGreatDoorPWeekOthersAH
import Derived.Test.YtiigdaohjanidaaGreatDoorPWeekOthersBH
import Derived.Test.YtiigdaohjanidaaGreatDoorCards
import Derived.SevenTiedAt
set_option linter.unusedVariables false
set_option linter.unusedSimpArgs false
namespace Go.Proofs.YtiigdaohjanidaaGreatDoor.K
open Go Go.AM Go.Proofs Go.RowKit

theorem weekOthers_args {xs} (h : Au Tryz.prog 1048576 Tryz.f5.params.toList xs) : ACalls Tryz.prog 5 (xs.map .p) [] fun x H' => x = .p (.bool true) /\ H' = [] := by
  rw [show Tryz.f5.params.toList = [22] from by rw [Tryz.params5]] at h
  obtain ⟨z1, r1, rfl, h1, h⟩ := Lb h
  obtain rfl := Ns h
  obtain ⟨xs1, rfl, u1, _, v1⟩ := RU Tryz.underlying22 h1; obtain ⟨x1, rfl, w1⟩ := Ve (f := ZF) fun y hy => cB (v1 y hy)
  exact FB x1 false (by simpa using u1) w1

set_option maxRecDepth 100000 in
theorem weekOthers_lifted (os : Os) (started : os.Started) (H : Type) (enc : TypeId × Value -> H) (F : Stop.Interp) :
    ReturnsInHanded {} Tryz.checked os 5 .any (fun w args => ((Rows.OpenSpec.upto Rows.weekOthersSpec).pre enc Tryz.prog Tryz.f5 Rows.weekOthersUptoRow.domain false w args /\ laidMetH Tryz.prog Bo w) /\ sizedMet enc Tryz.prog Tryz.f5 (Rows.OpenSpec.upto Rows.weekOthersSpec) false w args) (((Rows.OpenSpec.upto Rows.weekOthersSpec).at F).post enc Tryz.prog Tryz.f5 false true false false) := by
  refine Ln (C := Tryz.checked) (s := Rows.OpenSpec.upto Rows.weekOthersSpec) (k := Rows.uptoSmall) (X := laidMetH Tryz.prog Bo) rfl own started (by kernel_rfl) Tryz.func5
    (Iq (enc := enc) (C := Tryz.checked) (s := Rows.OpenSpec.upto Rows.weekOthersSpec) (k := Rows.uptoSmall) (X := laidMetH Tryz.prog Bo) rfl false (sB os) #[.slice none 0 0] 8 rfl (by kernel_rfl) (by kernel_rfl) (by kernel_rfl)
      (x := ([.nil], [], [])) (by kernel_rfl) rfl (by kernel_rfl) (Sd os _) (by kernel_rfl)) ?_
  intro W base args ds gs before hval hW _ hk _ hX
  refine HH (P := Tryz.prog) (fn := Tryz.f5) (spec := Rows.weekOthersSpec) (tb := 4) (B := 1048576) ?_ rfl mV (by kernel_rfl) (by kernel_rfl) Tryz.underlying4 (fun xs h => weekOthers_args h) hval hW (.inr (Oa hk)) (RS hX)
  intro ds hds
  rw [show Tryz.f5.params.toList = [22] from by rw [Tryz.params5]] at hds
  match ds, hds with
  | [d1], _ => rfl

theorem weekOthers_holds : Rows.WeekOthersUptoSaid :=
  OpenClaim.holds_of_cond 5 Tryz.f5 rfl rfl rfl rfl rfl rfl rfl ⟨rfl, rfl, rfl, rfl, rfl⟩ rfl rfl rfl rfl rfl (by kernel_rfl) Tryz.func5 (R6 globB weekOthers_h1 weekOthers_h2 weekOthers_h3 weekOthers_h4 (by kernel_rfl))
    (of_decide_eq_true (by kernel_rfl)) (by unfold Func.isWrapper; first | (rw [if_pos (by decide +kernel)]; kernel_rfl) | (rw [if_neg (by decide +kernel)]; exact ⟨rfl, rfl⟩))
    (fun os started H enc _ F => weekOthers_lifted os started H enc F)
theorem weekOthers_card : Rows.WeekOthersUptoCardSaid :=
  Claim7.holds_tied_plain_at .later [] [.data, .data, .data] true (true, "fc6ae7564400a4ccc495708dec3f5f6f0c5f670c02cb8027deb9d52430da8ae4") false
    weekOthers_holds (fun _ h => by cases h) weekOthers_k1 (fun _ h => by cases h) weekOthersUpto_row_tie rfl ⟨rfl, rfl⟩ weekOthers_k4 rfl
    (fun f fn hf hfn => by
      obtain rfl : f = 5 := Option.some.inj (weekOthers_k3.symm.trans hf) |>.symm
      obtain rfl : fn = Tryz.f5 := (Option.some.inj (Tryz.func5.symm.trans hfn)).symm
      exact ⟨weekOthers_k5, fun j t ht => by
        have hm : t ∈ Tryz.f5.params.toList := List.mem_of_getElem? (by simpa using ht)
        rw [show Tryz.f5.params.toList = [22] from by rw [Tryz.params5]] at hm
        simp only [List.mem_cons, List.not_mem_nil, or_false] at hm
        subst hm; exact (show Tryz.prog.wantsStandIn 22 = false by kernel_rfl)⟩)
    weekOthers_k2
end Go.Proofs.YtiigdaohjanidaaGreatDoor.K
