
/- The statement ReoptChecksUptoCardSaid is proved: for every input of bulk at most 1048576 the law ReoptChecks returns true and leaves its arguments as they were. Conditions: the bulk, and what the listed package-level variables hold at the start (the law does not read them), as the given row has it; the card ties the latter to the text of the program by the given tie. -/
import Derived.Test.YtcpmilhkineciaaGreatDoorZ22
import Derived.Test.YtcpmilhkineciaaGreatDoorBG2Z
import Derived.Test.YtcpmilhkineciaaGreatDoorPReoptChecksAZ
import Derived.Test.YtcpmilhkineciaaGreatDoorPReoptChecksBZ
import Derived.Test.YtcpmilhkineciaaGreatDoorCards
import Derived.SevenTiedAt
set_option linter.unusedVariables false
set_option linter.unusedSimpArgs false
namespace Go.Proofs.YtcpmilhkineciaaGreatDoor.K
open Go Go.AM Go.Proofs Go.RowKit

theorem reoptChecks_args {xs} (h : UG Tryz.prog 1048576 Tryz.f7.params.toList xs) : ACalls Tryz.prog 7 (xs.map .p) [] fun x H' => x = .p (.bool true) /\ H' = [] := by
  rw [show Tryz.f7.params.toList = [63, 33] from by rw [Tryz.params7]] at h
  obtain ⟨z1, r1, rfl, h1, h⟩ := UF h
  obtain ⟨z2, r2, rfl, h2, h⟩ := UF h
  obtain rfl := ZcM h
  obtain ⟨x1, rfl, w1⟩ := Zj9 h1
  obtain ⟨x2, rfl, w2⟩ := Zkr h2
  exact QV x1 w1 x2 w2

set_option maxRecDepth 100000 in
theorem reoptChecks_lifted (os : Os) (started : os.Started) (H : Type) (enc : TypeId × Value -> H) (F : Stop.Interp) :
    ReturnsInHanded {} Tryz.checked os 7 .any (fun w args => ((Rows.OpenSpec.upto Rows.reoptChecksSpec).pre enc Tryz.prog Tryz.f7 Rows.reoptChecksUptoRow.domain false w args /\ laidMetH Tryz.prog Jc w) /\ sizedMet enc Tryz.prog Tryz.f7 (Rows.OpenSpec.upto Rows.reoptChecksSpec) false w args) (((Rows.OpenSpec.upto Rows.reoptChecksSpec).at F).post enc Tryz.prog Tryz.f7 false true false false) := by
  refine Zaz (C := Tryz.checked) (s := Rows.OpenSpec.upto Rows.reoptChecksSpec) (k := Rows.uptoSmall) (X := laidMetH Tryz.prog Jc) rfl own started (by kernel_rfl) Tryz.func7
    (JJ (enc := enc) (C := Tryz.checked) (s := Rows.OpenSpec.upto Rows.reoptChecksSpec) (k := Rows.uptoSmall) (X := laidMetH Tryz.prog Jc) rfl false (Zoy os) #[.agg #[.slice none 0 0, .slice none 0 0, .slice none 0 0, .slice none 0 0, .slice none 0 0, .slice none 0 0, .slice none 0 0, .slice none 0 0, .int .i64 0, .slice none 0 0, .slice none 0 0, .slice none 0 0, .slice none 0 0, .slice none 0 0, .slice none 0 0], .agg #[.slice none 0 0, .slice none 0 0]] 8 rfl (by kernel_rfl) (by kernel_rfl) (by kernel_rfl)
      (x := ([.agg [.agg [.agg [.nil, .nil], .nil, .nil, .nil, .nil], .agg [.nil, .nil], .lit (.int .i64 0), .agg [.agg [.nil, .nil], .nil, .nil, .nil, .nil]], .agg [.nil, .nil]], [], [])) (by kernel_rfl) rfl (by kernel_rfl) (Zc0 os _) (by kernel_rfl)) ?_
  intro W base args ds gs before hval hW _ hk _ hX
  refine Jy (P := Tryz.prog) (fn := Tryz.f7) (spec := Rows.reoptChecksSpec) (tb := 4) (B := 1048576) ?_ rfl ZjB (by kernel_rfl) (by kernel_rfl) Tryz.underlying4 (fun xs h => reoptChecks_args h) hval hW (.inr (Zb0 hk)) (Zeu hX)
  intro ds hds
  rw [show Tryz.f7.params.toList = [63, 33] from by rw [Tryz.params7]] at hds
  match ds, hds with
  | [d1, d2], _ => rfl

theorem reoptChecks_holds : Rows.ReoptChecksUptoSaid :=
  OpenClaim.holds_of_cond 7 Tryz.f7 rfl rfl rfl rfl rfl rfl rfl ⟨rfl, rfl, rfl, rfl, rfl⟩ rfl rfl rfl rfl rfl (by kernel_rfl) Tryz.func7 (ZdC globB reoptChecks_h1 reoptChecks_h2 reoptChecks_h3 reoptChecks_h4 (by kernel_rfl))
    (of_decide_eq_true (by kernel_rfl)) (by unfold Func.isWrapper; first | (rw [if_pos (by decide +kernel)]; kernel_rfl) | (rw [if_neg (by decide +kernel)]; exact ⟨rfl, rfl⟩))
    (fun os started H enc _ F => reoptChecks_lifted os started H enc F)
theorem reoptChecks_card : Rows.ReoptChecksUptoCardSaid :=
  Claim7.holds_tied_plain_at .later [] [.data, .data, .data] true (true, "5b163dea9a55d1ee639174eb2ff06ecc05e44d3985e367b380ec3574926d0eb2") false
    reoptChecks_holds (fun _ h => by cases h) reoptChecks_k1 (fun _ h => by cases h) reoptChecksUpto_row_tie rfl ⟨rfl, rfl⟩ reoptChecks_k4 rfl
    (fun f fn hf hfn => by
      obtain rfl : f = 7 := Option.some.inj (reoptChecks_k3.symm.trans hf) |>.symm
      obtain rfl : fn = Tryz.f7 := (Option.some.inj (Tryz.func7.symm.trans hfn)).symm
      exact ⟨reoptChecks_k5, fun j t ht => by
        have hm : t ∈ Tryz.f7.params.toList := List.mem_of_getElem? (by simpa using ht)
        rw [show Tryz.f7.params.toList = [63, 33] from by rw [Tryz.params7]] at hm
        simp only [List.mem_cons, List.not_mem_nil, or_false] at hm
        rcases hm with rfl | rfl
        · exact (show Tryz.prog.wantsStandIn 63 = false by kernel_rfl)
        · exact (show Tryz.prog.wantsStandIn 33 = false by kernel_rfl)⟩)
    reoptChecks_k2
end Go.Proofs.YtcpmilhkineciaaGreatDoor.K
