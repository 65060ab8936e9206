
/- The statement ReoptKeepsUptoCardSaid is proved: for every input of bulk at most 1048576 the law ReoptKeeps returns true and leaves its arguments as they were. Conditions: the bulk, and what the listed package-level variables hold at the start (the law does not read them), as the given row has it; the card ties the latter to the text of the program by the given tie. -/
import Derived.Test.YtiigdaohjanidaaGreatDoorP26
import Derived.Test.YtiigdaohjanidaaGreatDoorBG2P
import Derived.Test.YtiigdaohjanidaaGreatDoorPReoptKeepsAP
import Derived.Test.YtiigdaohjanidaaGreatDoorPReoptKeepsBP
import Derived.Test.YtiigdaohjanidaaGreatDoorCards
import Derived.SevenTiedAt
set_option linter.unusedVariables false
set_option linter.unusedSimpArgs false
namespace Go.Proofs.YtiigdaohjanidaaGreatDoor.K
open Go Go.AM Go.Proofs Go.RowKit

theorem reoptKeeps_args {xs} (h : A6 Tryz.prog 1048576 Tryz.f7.params.toList xs) : ACalls Tryz.prog 7 (xs.map .p) [] fun x H' => x = .p (.bool true) /\ H' = [] := by
  rw [show Tryz.f7.params.toList = [63, 33] from by rw [Tryz.params7]] at h
  obtain ⟨z1, r1, rfl, h1, h⟩ := DG h
  obtain ⟨z2, r2, rfl, h2, h⟩ := DG h
  obtain rfl := OR h
  obtain ⟨x1, rfl, w1⟩ := pY h1
  obtain ⟨x2, rfl, w2⟩ := qA h2
  exact I3 x1 x2 w1 w2

set_option maxRecDepth 100000 in
theorem reoptKeeps_lifted (os : Os) (started : os.Started) (H : Type) (enc : TypeId × Value -> H) (F : Stop.Interp) :
    ReturnsInHanded {} Tryz.checked os 7 .any (fun w args => ((Rows.OpenSpec.upto Rows.reoptKeepsSpec).pre enc Tryz.prog Tryz.f7 Rows.reoptKeepsUptoRow.domain false w args /\ laidMetH Tryz.prog B5 w) /\ sizedMet enc Tryz.prog Tryz.f7 (Rows.OpenSpec.upto Rows.reoptKeepsSpec) false w args) (((Rows.OpenSpec.upto Rows.reoptKeepsSpec).at F).post enc Tryz.prog Tryz.f7 false true false false) := by
  refine MR (C := Tryz.checked) (s := Rows.OpenSpec.upto Rows.reoptKeepsSpec) (k := Rows.uptoSmall) (X := laidMetH Tryz.prog B5) rfl own started (by kernel_rfl) Tryz.func7
    (LD (enc := enc) (C := Tryz.checked) (s := Rows.OpenSpec.upto Rows.reoptKeepsSpec) (k := Rows.uptoSmall) (X := laidMetH Tryz.prog B5) rfl false (wF os) #[.agg #[.slice none 0 0, .slice none 0 0, .slice none 0 0, .slice none 0 0, .slice none 0 0, .slice none 0 0, .slice none 0 0, .slice none 0 0, .int .i64 0, .slice none 0 0, .slice none 0 0, .slice none 0 0, .slice none 0 0, .slice none 0 0, .slice none 0 0], .agg #[.slice none 0 0, .slice none 0 0]] 8 rfl (by kernel_rfl) (by kernel_rfl) (by kernel_rfl)
      (x := ([.agg [.agg [.agg [.nil, .nil], .nil, .nil, .nil, .nil], .agg [.nil, .nil], .lit (.int .i64 0), .agg [.agg [.nil, .nil], .nil, .nil, .nil, .nil]], .agg [.nil, .nil]], [], [])) (by kernel_rfl) rfl (by kernel_rfl) (Tw os _) (by kernel_rfl)) ?_
  intro W base args ds gs before hval hW _ hk _ hX
  refine I4 (P := Tryz.prog) (fn := Tryz.f7) (spec := Rows.reoptKeepsSpec) (tb := 4) (B := 1048576) ?_ rfl qS (by kernel_rfl) (by kernel_rfl) Tryz.underlying4 (fun xs h => reoptKeeps_args h) hval hW (.inr (PD hk)) (Te hX)
  intro ds hds
  rw [show Tryz.f7.params.toList = [63, 33] from by rw [Tryz.params7]] at hds
  match ds, hds with
  | [d1, d2], _ => rfl

theorem reoptKeeps_holds : Rows.ReoptKeepsUptoSaid :=
  OpenClaim.holds_of_cond 7 Tryz.f7 rfl rfl rfl rfl rfl rfl rfl ⟨rfl, rfl, rfl, rfl, rfl⟩ rfl rfl rfl rfl rfl (by kernel_rfl) Tryz.func7 (Ts globB reoptKeeps_h1 reoptKeeps_h2 reoptKeeps_h3 reoptKeeps_h4 (by kernel_rfl))
    (of_decide_eq_true (by kernel_rfl)) (by unfold Func.isWrapper; first | (rw [if_pos (by decide +kernel)]; kernel_rfl) | (rw [if_neg (by decide +kernel)]; exact ⟨rfl, rfl⟩))
    (fun os started H enc _ F => reoptKeeps_lifted os started H enc F)
theorem reoptKeeps_card : Rows.ReoptKeepsUptoCardSaid :=
  Claim7.holds_tied_plain_at .later [] [.data, .data, .data] true (true, "fc6ae7564400a4ccc495708dec3f5f6f0c5f670c02cb8027deb9d52430da8ae4") false
    reoptKeeps_holds (fun _ h => by cases h) reoptKeeps_k1 (fun _ h => by cases h) reoptKeepsUpto_row_tie rfl ⟨rfl, rfl⟩ reoptKeeps_k4 rfl
    (fun f fn hf hfn => by
      obtain rfl : f = 7 := Option.some.inj (reoptKeeps_k3.symm.trans hf) |>.symm
      obtain rfl : fn = Tryz.f7 := (Option.some.inj (Tryz.func7.symm.trans hfn)).symm
      exact ⟨reoptKeeps_k5, fun j t ht => by
        have hm : t ∈ Tryz.f7.params.toList := List.mem_of_getElem? (by simpa using ht)
        rw [show Tryz.f7.params.toList = [63, 33] from by rw [Tryz.params7]] at hm
        simp only [List.mem_cons, List.not_mem_nil, or_false] at hm
        rcases hm with rfl | rfl
        · exact (show Tryz.prog.wantsStandIn 63 = false by kernel_rfl)
        · exact (show Tryz.prog.wantsStandIn 33 = false by kernel_rfl)⟩)
    reoptKeeps_k2
end Go.Proofs.YtiigdaohjanidaaGreatDoor.K
