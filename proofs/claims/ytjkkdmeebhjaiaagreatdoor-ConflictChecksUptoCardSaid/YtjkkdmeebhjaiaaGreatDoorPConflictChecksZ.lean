
/- The statement ConflictChecksUptoCardSaid is proved: for every input of bulk at most 1048576 the law ConflictChecks returns true and leaves its arguments as they were. Conditions: the bulk, and what the listed package-level variables hold at the start (the law does not read them), as the given row has it; the card ties the latter to the text of the program by the given tie. -/
import Derived.Test.YtjkkdmeebhjaiaaGreatDoorZ19
import Derived.Test.YtjkkdmeebhjaiaaGreatDoorBG2Z
import Derived.Test.YtjkkdmeebhjaiaaGreatDoorPConflictChecksAZ
import Derived.Test.YtjkkdmeebhjaiaaGreatDoorPConflictChecksBZ
import Derived.Test.YtjkkdmeebhjaiaaGreatDoorCards
import Derived.SevenTiedAt
set_option linter.unusedVariables false
set_option linter.unusedSimpArgs false
namespace Go.Proofs.YtjkkdmeebhjaiaaGreatDoor.K
open Go Go.AM Go.Proofs Go.RowKit

theorem conflictChecks_args {xs} (h : Bu Tryz.prog 1048576 Tryz.f4.params.toList xs) : ACalls Tryz.prog 4 (xs.map .p) [] fun x H' => x = .p (.bool true) /\ H' = [] := by
  rw [show Tryz.f4.params.toList = [30, 34] from by rw [Tryz.params4]] at h
  obtain ⟨z1, r1, rfl, h1, h⟩ := Ei h
  obtain ⟨z2, r2, rfl, h2, h⟩ := Ei h
  obtain rfl := PK h
  obtain ⟨x1, rfl, w1⟩ := jF h1
  obtain ⟨x2, rfl, w2, u2⟩ := jG h2
  exact Hn x1 w1 x2 false w2

set_option maxRecDepth 100000 in
theorem conflictChecks_lifted (os : Os) (started : os.Started) (H : Type) (enc : TypeId × Value -> H) (F : Stop.Interp) :
    ReturnsInHanded {} Tryz.checked os 4 .any (fun w args => ((Rows.OpenSpec.upto Rows.conflictChecksSpec).pre enc Tryz.prog Tryz.f4 Rows.conflictChecksUptoRow.domain false w args /\ laidMetH Tryz.prog Cw w) /\ sizedMet enc Tryz.prog Tryz.f4 (Rows.OpenSpec.upto Rows.conflictChecksSpec) false w args) (((Rows.OpenSpec.upto Rows.conflictChecksSpec).at F).post enc Tryz.prog Tryz.f4 false true false false) := by
  refine Nu (C := Tryz.checked) (s := Rows.OpenSpec.upto Rows.conflictChecksSpec) (k := Rows.uptoSmall) (X := laidMetH Tryz.prog Cw) rfl own started (by kernel_rfl) Tryz.func4
    (Mv (enc := enc) (C := Tryz.checked) (s := Rows.OpenSpec.upto Rows.conflictChecksSpec) (k := Rows.uptoSmall) (X := laidMetH Tryz.prog Cw) rfl false (yG os) #[.agg #[.slice none 0 0, .slice none 0 0, .slice none 0 0, .slice none 0 0, .slice none 0 0, .slice none 0 0], .slice none 0 0] 8 rfl (by kernel_rfl) (by kernel_rfl) (by kernel_rfl)
      (x := ([.agg [.agg [.nil, .nil], .nil, .nil, .nil, .nil], .nil], [], [])) (by kernel_rfl) rfl (by kernel_rfl) (bG os _) (by kernel_rfl)) ?_
  intro W base args ds gs before hval hW _ hk _ hX
  refine LM (P := Tryz.prog) (fn := Tryz.f4) (spec := Rows.conflictChecksSpec) (tb := 4) (B := 1048576) ?_ rfl tR (by kernel_rfl) (by kernel_rfl) Tryz.underlying4 (fun xs h => conflictChecks_args h) hval hW (.inr (Rx hk)) (aI hX)
  intro ds hds
  rw [show Tryz.f4.params.toList = [30, 34] from by rw [Tryz.params4]] at hds
  match ds, hds with
  | [d1, d2], _ => rfl

theorem conflictChecks_holds : Rows.ConflictChecksUptoSaid :=
  OpenClaim.holds_of_cond 4 Tryz.f4 rfl rfl rfl rfl rfl rfl rfl ⟨rfl, rfl, rfl, rfl, rfl⟩ rfl rfl rfl rfl rfl (by kernel_rfl) Tryz.func4 (bB globB conflictChecks_h1 conflictChecks_h2 conflictChecks_h3 conflictChecks_h4 (by kernel_rfl))
    (of_decide_eq_true (by kernel_rfl)) (by unfold Func.isWrapper; first | (rw [if_pos (by decide +kernel)]; kernel_rfl) | (rw [if_neg (by decide +kernel)]; exact ⟨rfl, rfl⟩))
    (fun os started H enc _ F => conflictChecks_lifted os started H enc F)
theorem conflictChecks_card : Rows.ConflictChecksUptoCardSaid :=
  Claim7.holds_tied_plain_at .later [] [.data, .data, .data] true (true, "ad4b7874777524824feb8b799edab471e4194b16822c0824ba3771b55d9be586") false
    conflictChecks_holds (fun _ h => by cases h) conflictChecks_k1 (fun _ h => by cases h) conflictChecksUpto_row_tie rfl ⟨rfl, rfl⟩ conflictChecks_k4 rfl
    (fun f fn hf hfn => by
      obtain rfl : f = 4 := Option.some.inj (conflictChecks_k3.symm.trans hf) |>.symm
      obtain rfl : fn = Tryz.f4 := (Option.some.inj (Tryz.func4.symm.trans hfn)).symm
      exact ⟨conflictChecks_k5, fun j t ht => by
        have hm : t ∈ Tryz.f4.params.toList := List.mem_of_getElem? (by simpa using ht)
        rw [show Tryz.f4.params.toList = [30, 34] from by rw [Tryz.params4]] at hm
        simp only [List.mem_cons, List.not_mem_nil, or_false] at hm
        rcases hm with rfl | rfl
        · exact (show Tryz.prog.wantsStandIn 30 = false by kernel_rfl)
        · exact (show Tryz.prog.wantsStandIn 34 = false by kernel_rfl)⟩)
    conflictChecks_k2
end Go.Proofs.YtjkkdmeebhjaiaaGreatDoor.K
