
/- The statement WeekPlansUptoCardSaid is proved: for every input of bulk at most 1048576 the law WeekPlans returns true and leaves its arguments as they were. Conditions: the bulk, and what the listed package-level variables hold at the start (the law does not read them), as the given row has it; the card ties the latter to the text of the program by the given tie. -/
import Derived.Test.YtiigdaohjanidaaGreatDoorY23
import Derived.Test.YtiigdaohjanidaaGreatDoorBG2Y
import Derived.Test.YtiigdaohjanidaaGreatDoorPWeekPlansAY
import Derived.Test.YtiigdaohjanidaaGreatDoorPWeekPlansBY
import Derived.Test.YtiigdaohjanidaaGreatDoorCards
import Derived.SevenTiedAt
set_option linter.unusedVariables false
set_option linter.unusedSimpArgs false
namespace Go.Proofs.YtiigdaohjanidaaGreatDoor.K
open Go Go.AM Go.Proofs Go.RowKit

theorem weekPlans_args {xs} (h : Aw Tryz.prog 1048576 Tryz.f3.params.toList xs) : ACalls Tryz.prog 3 (xs.map .p) [] fun x H' => x = .p (.bool true) /\ H' = [] := by
  rw [show Tryz.f3.params.toList = [22] from by rw [Tryz.params3]] at h
  obtain ⟨z1, r1, rfl, h1, h⟩ := Ld h
  obtain rfl := Nr h
  obtain ⟨xs1, rfl, u1, _, v1⟩ := RJ Tryz.underlying22 h1; obtain ⟨x1, rfl, w1⟩ := Vh (f := Zs) fun y hy => bJ (v1 y hy)
  exact HH x1 false (by simpa using u1) w1

set_option maxRecDepth 100000 in
theorem weekPlans_lifted (os : Os) (started : os.Started) (H : Type) (enc : TypeId × Value -> H) (F : Stop.Interp) :
    ReturnsInHanded {} Tryz.checked os 3 .any (fun w args => ((Rows.OpenSpec.upto Rows.weekPlansSpec).pre enc Tryz.prog Tryz.f3 Rows.weekPlansUptoRow.domain false w args /\ laidMetH Tryz.prog Bj w) /\ sizedMet enc Tryz.prog Tryz.f3 (Rows.OpenSpec.upto Rows.weekPlansSpec) false w args) (((Rows.OpenSpec.upto Rows.weekPlansSpec).at F).post enc Tryz.prog Tryz.f3 false true false false) := by
  refine Lp (C := Tryz.checked) (s := Rows.OpenSpec.upto Rows.weekPlansSpec) (k := Rows.uptoSmall) (X := laidMetH Tryz.prog Bj) rfl own started (by kernel_rfl) Tryz.func3
    (Ik (enc := enc) (C := Tryz.checked) (s := Rows.OpenSpec.upto Rows.weekPlansSpec) (k := Rows.uptoSmall) (X := laidMetH Tryz.prog Bj) rfl false (rM os) #[.slice none 0 0] 8 rfl (by kernel_rfl) (by kernel_rfl) (by kernel_rfl)
      (x := ([.nil], [], [])) (by kernel_rfl) rfl (by kernel_rfl) (R1 os _) (by kernel_rfl)) ?_
  intro W base args ds gs before hval hW _ hk _ hX
  refine HI (P := Tryz.prog) (fn := Tryz.f3) (spec := Rows.weekPlansSpec) (tb := 4) (B := 1048576) ?_ rfl mD (by kernel_rfl) (by kernel_rfl) Tryz.underlying4 (fun xs h => weekPlans_args h) hval hW (.inr (N9 hk)) (RI hX)
  intro ds hds
  rw [show Tryz.f3.params.toList = [22] from by rw [Tryz.params3]] at hds
  match ds, hds with
  | [d1], _ => rfl

theorem weekPlans_holds : Rows.WeekPlansUptoSaid :=
  OpenClaim.holds_of_cond 3 Tryz.f3 rfl rfl rfl rfl rfl rfl rfl ⟨rfl, rfl, rfl, rfl, rfl⟩ rfl rfl rfl rfl rfl (by kernel_rfl) Tryz.func3 (RX globB weekPlans_h1 weekPlans_h2 weekPlans_h3 weekPlans_h4 (by kernel_rfl))
    (of_decide_eq_true (by kernel_rfl)) (by unfold Func.isWrapper; first | (rw [if_pos (by decide +kernel)]; kernel_rfl) | (rw [if_neg (by decide +kernel)]; exact ⟨rfl, rfl⟩))
    (fun os started H enc _ F => weekPlans_lifted os started H enc F)
theorem weekPlans_card : Rows.WeekPlansUptoCardSaid :=
  Claim7.holds_tied_plain_at .later [] [.data, .data, .data] true (true, "fc6ae7564400a4ccc495708dec3f5f6f0c5f670c02cb8027deb9d52430da8ae4") false
    weekPlans_holds (fun _ h => by cases h) weekPlans_k1 (fun _ h => by cases h) weekPlansUpto_row_tie rfl ⟨rfl, rfl⟩ weekPlans_k4 rfl
    (fun f fn hf hfn => by
      obtain rfl : f = 3 := Option.some.inj (weekPlans_k3.symm.trans hf) |>.symm
      obtain rfl : fn = Tryz.f3 := (Option.some.inj (Tryz.func3.symm.trans hfn)).symm
      exact ⟨weekPlans_k5, fun j t ht => by
        have hm : t ∈ Tryz.f3.params.toList := List.mem_of_getElem? (by simpa using ht)
        rw [show Tryz.f3.params.toList = [22] from by rw [Tryz.params3]] at hm
        simp only [List.mem_cons, List.not_mem_nil, or_false] at hm
        subst hm; exact (show Tryz.prog.wantsStandIn 22 = false by kernel_rfl)⟩)
    weekPlans_k2
end Go.Proofs.YtiigdaohjanidaaGreatDoor.K
