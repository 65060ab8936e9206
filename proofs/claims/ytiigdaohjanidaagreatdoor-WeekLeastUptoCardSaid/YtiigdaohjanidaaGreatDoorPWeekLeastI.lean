
/- The statement WeekLeastUptoCardSaid is proved: for every input of bulk at most 1048576 the law WeekLeast returns true and leaves its arguments as they were. Conditions: the bulk, and what the listed package-level variables hold at the start (the law does not read them), as the given row has it; the card ties the latter to the text of the program by the given tie. -/
import Derived.Test.YtiigdaohjanidaaGreatDoorI24
import Derived.Test.YtiigdaohjanidaaGreatDoorBG2I
import Derived.Test.YtiigdaohjanidaaGreatDoorPWeekLeastAI
import Derived.Test.YtiigdaohjanidaaGreatDoorPWeekLeastBI
import Derived.Test.YtiigdaohjanidaaGreatDoorCards
import Derived.SevenTiedAt
set_option linter.unusedVariables false
set_option linter.unusedSimpArgs false
namespace Go.Proofs.YtiigdaohjanidaaGreatDoor.K
open Go Go.AM Go.Proofs Go.RowKit

theorem weekLeast_args {xs} (h : AI Tryz.prog 1048576 Tryz.f4.params.toList xs) : ACalls Tryz.prog 4 (xs.map .p) [] fun x H' => x = .p (.bool true) /\ H' = [] := by
  rw [show Tryz.f4.params.toList = [22, 33, 3] from by rw [Tryz.params4]] at h
  obtain ⟨z1, r1, rfl, h1, h⟩ := Kb h
  obtain ⟨z2, r2, rfl, h2, h⟩ := Kb h
  obtain ⟨z3, r3, rfl, h3, h⟩ := Kb h
  obtain rfl := NG h
  obtain ⟨xs1, rfl, u1, _, v1⟩ := R6 Tryz.underlying22 h1; obtain ⟨x1, rfl, w1⟩ := Y4 (f := ZG) fun y hy => cH (v1 y hy)
  obtain ⟨x2, rfl, w2⟩ := mV h2
  obtain ⟨x3, rfl, w3⟩ := O9 Tryz.underlying3 h3; have w3 := Xi w3
  exact HT x1 false x2 x3 (by simpa using u1) w1 w2

set_option maxRecDepth 100000 in
theorem weekLeast_lifted (os : Os) (started : os.Started) (H : Type) (enc : TypeId × Value -> H) (F : Stop.Interp) :
    ReturnsInHanded {} Tryz.checked os 4 .any (fun w args => ((Rows.OpenSpec.upto Rows.weekLeastSpec).pre enc Tryz.prog Tryz.f4 Rows.weekLeastUptoRow.domain false w args /\ laidMetH Tryz.prog Bz w) /\ sizedMet enc Tryz.prog Tryz.f4 (Rows.OpenSpec.upto Rows.weekLeastSpec) false w args) (((Rows.OpenSpec.upto Rows.weekLeastSpec).at F).post enc Tryz.prog Tryz.f4 false true false false) := by
  refine LB (C := Tryz.checked) (s := Rows.OpenSpec.upto Rows.weekLeastSpec) (k := Rows.uptoSmall) (X := laidMetH Tryz.prog Bz) rfl own started (by kernel_rfl) Tryz.func4
    (IB (enc := enc) (C := Tryz.checked) (s := Rows.OpenSpec.upto Rows.weekLeastSpec) (k := Rows.uptoSmall) (X := laidMetH Tryz.prog Bz) rfl false (sY os) #[.slice none 0 0, .agg #[.slice none 0 0, .slice none 0 0], .int .i64 0] 8 rfl (by kernel_rfl) (by kernel_rfl) (by kernel_rfl)
      (x := ([.nil, .agg [.nil, .nil], .lit (.int .i64 0)], [], [])) (by kernel_rfl) rfl (by kernel_rfl) (So os _) (by kernel_rfl)) ?_
  intro W base args ds gs before hval hW _ hk _ hX
  refine HU (P := Tryz.prog) (fn := Tryz.f4) (spec := Rows.weekLeastSpec) (tb := 4) (B := 1048576) ?_ rfl nN (by kernel_rfl) (by kernel_rfl) Tryz.underlying4 (fun xs h => weekLeast_args h) hval hW (.inr (Om hk)) (R3 hX)
  intro ds hds
  rw [show Tryz.f4.params.toList = [22, 33, 3] from by rw [Tryz.params4]] at hds
  match ds, hds with
  | [d1, d2, d3], _ => rfl

theorem weekLeast_holds : Rows.WeekLeastUptoSaid :=
  OpenClaim.holds_of_cond 4 Tryz.f4 rfl rfl rfl rfl rfl rfl rfl ⟨rfl, rfl, rfl, rfl, rfl⟩ rfl rfl rfl rfl rfl (by kernel_rfl) Tryz.func4 (Sg globB weekLeast_h1 weekLeast_h2 weekLeast_h3 weekLeast_h4 (by kernel_rfl))
    (of_decide_eq_true (by kernel_rfl)) (by unfold Func.isWrapper; first | (rw [if_pos (by decide +kernel)]; kernel_rfl) | (rw [if_neg (by decide +kernel)]; exact ⟨rfl, rfl⟩))
    (fun os started H enc _ F => weekLeast_lifted os started H enc F)
theorem weekLeast_card : Rows.WeekLeastUptoCardSaid :=
  Claim7.holds_tied_plain_at .later [] [.data, .data, .data] true (true, "fc6ae7564400a4ccc495708dec3f5f6f0c5f670c02cb8027deb9d52430da8ae4") false
    weekLeast_holds (fun _ h => by cases h) weekLeast_k1 (fun _ h => by cases h) weekLeastUpto_row_tie rfl ⟨rfl, rfl⟩ weekLeast_k4 rfl
    (fun f fn hf hfn => by
      obtain rfl : f = 4 := Option.some.inj (weekLeast_k3.symm.trans hf) |>.symm
      obtain rfl : fn = Tryz.f4 := (Option.some.inj (Tryz.func4.symm.trans hfn)).symm
      exact ⟨weekLeast_k5, fun j t ht => by
        have hm : t ∈ Tryz.f4.params.toList := List.mem_of_getElem? (by simpa using ht)
        rw [show Tryz.f4.params.toList = [22, 33, 3] from by rw [Tryz.params4]] at hm
        simp only [List.mem_cons, List.not_mem_nil, or_false] at hm
        rcases hm with rfl | rfl | rfl
        · exact (show Tryz.prog.wantsStandIn 22 = false by kernel_rfl)
        · exact (show Tryz.prog.wantsStandIn 33 = false by kernel_rfl)
        · exact (show Tryz.prog.wantsStandIn 3 = false by kernel_rfl)⟩)
    weekLeast_k2
end Go.Proofs.YtiigdaohjanidaaGreatDoor.K
