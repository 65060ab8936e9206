
/- The statement ConflictKeepsUptoCardSaid is proved: for every input of bulk at most 1048576 the law ConflictKeeps returns true and leaves its arguments as they were. Conditions: the bulk, and what the listed package-level variables hold at the start (the law does not read them), as the given row has it; the card ties the latter to the text of the program by the given tie. -/
import Derived.Test.YtjkkdmeebhjaiaaGreatDoorI18
import Derived.Test.YtjkkdmeebhjaiaaGreatDoorBG2I
import Derived.Test.YtjkkdmeebhjaiaaGreatDoorPConflictKeepsAI
import Derived.Test.YtjkkdmeebhjaiaaGreatDoorPConflictKeepsBI
import Derived.Test.YtjkkdmeebhjaiaaGreatDoorCards
import Derived.SevenTiedAt
set_option linter.unusedVariables false
set_option linter.unusedSimpArgs false
namespace Go.Proofs.YtjkkdmeebhjaiaaGreatDoor.K
open Go Go.AM Go.Proofs Go.RowKit

theorem conflictKeeps_args {xs} (h : K3 Tryz.prog 1048576 Tryz.f3.params.toList xs) : ACalls Tryz.prog 3 (xs.map .p) [] fun x H' => x = .p (.bool true) /\ H' = [] := by
  rw [show Tryz.f3.params.toList = [30, 31] from by rw [Tryz.params3]] at h
  obtain ⟨z1, r1, rfl, h1, h⟩ := CP h
  obtain ⟨z2, r2, rfl, h2, h⟩ := CP h
  obtain rfl := M1 h
  obtain ⟨x1, rfl, w1⟩ := aC h1
  obtain ⟨xs2, rfl, u2, _, v2⟩ := Rx Tryz.underlying31 h2; obtain ⟨x2, rfl, w2⟩ := Rw v2
  exact Hx x1 w1 x2 false (by simpa using u2)

set_option maxRecDepth 100000 in
theorem conflictKeeps_lifted (os : Os) (started : os.Started) (H : Type) (enc : TypeId × Value -> H) (F : Stop.Interp) :
    ReturnsInHanded {} Tryz.checked os 3 .any (fun w args => ((Rows.OpenSpec.upto Rows.conflictKeepsSpec).pre enc Tryz.prog Tryz.f3 Rows.conflictKeepsUptoRow.domain false w args /\ laidMetH Tryz.prog AZ w) /\ sizedMet enc Tryz.prog Tryz.f3 (Rows.OpenSpec.upto Rows.conflictKeepsSpec) false w args) (((Rows.OpenSpec.upto Rows.conflictKeepsSpec).at F).post enc Tryz.prog Tryz.f3 false true false false) := by
  refine I9 (C := Tryz.checked) (s := Rows.OpenSpec.upto Rows.conflictKeepsSpec) (k := Rows.uptoSmall) (X := laidMetH Tryz.prog AZ) rfl own started (by kernel_rfl) Tryz.func3
    (Ih (enc := enc) (C := Tryz.checked) (s := Rows.OpenSpec.upto Rows.conflictKeepsSpec) (k := Rows.uptoSmall) (X := laidMetH Tryz.prog AZ) rfl false (pN os) #[.agg #[.slice none 0 0, .slice none 0 0, .slice none 0 0, .slice none 0 0, .slice none 0 0, .slice none 0 0], .slice none 0 0] 8 rfl (by kernel_rfl) (by kernel_rfl) (by kernel_rfl)
      (x := ([.agg [.agg [.nil, .nil], .nil, .nil, .nil, .nil], .nil], [], [])) (by kernel_rfl) rfl (by kernel_rfl) (RQ os _) (by kernel_rfl)) ?_
  intro W base args ds gs before hval hW _ hk _ hX
  refine Hy (P := Tryz.prog) (fn := Tryz.f3) (spec := Rows.conflictKeepsSpec) (tb := 4) (B := 1048576) ?_ rfl lG (by kernel_rfl) (by kernel_rfl) Tryz.underlying4 (fun xs h => conflictKeeps_args h) hval hW (.inr (NK hk)) (Rs hX)
  intro ds hds
  rw [show Tryz.f3.params.toList = [30, 31] from by rw [Tryz.params3]] at hds
  match ds, hds with
  | [d1, d2], _ => rfl

theorem conflictKeeps_holds : Rows.ConflictKeepsUptoSaid :=
  OpenClaim.holds_of_cond 3 Tryz.f3 rfl rfl rfl rfl rfl rfl rfl ⟨rfl, rfl, rfl, rfl, rfl⟩ rfl rfl rfl rfl rfl (by kernel_rfl) Tryz.func3 (RK globB conflictKeeps_h1 conflictKeeps_h2 conflictKeeps_h3 conflictKeeps_h4 (by kernel_rfl))
    (of_decide_eq_true (by kernel_rfl)) (by unfold Func.isWrapper; first | (rw [if_pos (by decide +kernel)]; kernel_rfl) | (rw [if_neg (by decide +kernel)]; exact ⟨rfl, rfl⟩))
    (fun os started H enc _ F => conflictKeeps_lifted os started H enc F)
theorem conflictKeeps_card : Rows.ConflictKeepsUptoCardSaid :=
  Claim7.holds_tied_plain_at .later [] [.data, .data, .data] true (true, "ad4b7874777524824feb8b799edab471e4194b16822c0824ba3771b55d9be586") false
    conflictKeeps_holds (fun _ h => by cases h) conflictKeeps_k1 (fun _ h => by cases h) conflictKeepsUpto_row_tie rfl ⟨rfl, rfl⟩ conflictKeeps_k4 rfl
    (fun f fn hf hfn => by
      obtain rfl : f = 3 := Option.some.inj (conflictKeeps_k3.symm.trans hf) |>.symm
      obtain rfl : fn = Tryz.f3 := (Option.some.inj (Tryz.func3.symm.trans hfn)).symm
      exact ⟨conflictKeeps_k5, fun j t ht => by
        have hm : t ∈ Tryz.f3.params.toList := List.mem_of_getElem? (by simpa using ht)
        rw [show Tryz.f3.params.toList = [30, 31] from by rw [Tryz.params3]] at hm
        simp only [List.mem_cons, List.not_mem_nil, or_false] at hm
        rcases hm with rfl | rfl
        · exact (show Tryz.prog.wantsStandIn 30 = false by kernel_rfl)
        · exact (show Tryz.prog.wantsStandIn 31 = false by kernel_rfl)⟩)
    conflictKeeps_k2
end Go.Proofs.YtjkkdmeebhjaiaaGreatDoor.K
