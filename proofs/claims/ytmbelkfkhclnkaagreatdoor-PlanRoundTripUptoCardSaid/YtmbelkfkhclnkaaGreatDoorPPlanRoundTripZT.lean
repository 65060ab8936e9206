
/- The statement PlanRoundTripUptoCardSaid is proved: for every input of bulk at most 1048576 the law PlanRoundTrip returns true and leaves its arguments as they were. Conditions: the bulk, and what the listed package-level variables hold at the start (the law does not read them), as the given row has it; the card ties the latter to the text of the program by the given tie. -/
import Derived.Test.YtmbelkfkhclnkaaGreatDoorZT19
import Derived.Test.YtmbelkfkhclnkaaGreatDoorCards
import Derived.SevenTiedAt
set_option linter.unusedVariables false
set_option linter.unusedSimpArgs false
namespace Go.Proofs.YtmbelkfkhclnkaaGreatDoor.K
open Go Go.AM Go.Proofs Go.RowKit

theorem planRoundTrip_args {xs} (h : Vn Tryz.prog 1048576 Tryz.f5.params.toList xs) : ACalls Tryz.prog 5 (xs.map .p) [] fun x H' => x = .p (.bool true) /\ H' = [] := by
  rw [show Tryz.f5.params.toList = [46] from by rw [Tryz.params5]] at h
  obtain ⟨z1, r1, rfl, h1, h⟩ := Au h
  obtain rfl := B4 h
  obtain ⟨x1, rfl, w1⟩ := IN h1
  exact Kz x1 w1

set_option maxRecDepth 100000 in
theorem planRoundTrip_lifted (os : Os) (started : os.Started) (H : Type) (enc : TypeId × Value -> H) (F : Stop.Interp) :
    ReturnsInHanded {} Tryz.checked os 5 .any (fun w args => ((Rows.OpenSpec.upto Rows.planRoundTripSpec).pre enc Tryz.prog Tryz.f5 Rows.planRoundTripUptoRow.domain false w args /\ laidMetH Tryz.prog Vj w) /\ sizedMet enc Tryz.prog Tryz.f5 (Rows.OpenSpec.upto Rows.planRoundTripSpec) false w args) (((Rows.OpenSpec.upto Rows.planRoundTripSpec).at F).post enc Tryz.prog Tryz.f5 false true false false) := by
  refine AA (C := Tryz.checked) (s := Rows.OpenSpec.upto Rows.planRoundTripSpec) (k := Rows.uptoSmall) (X := laidMetH Tryz.prog Vj) rfl own started (by kernel_rfl) Tryz.func5
    (KO (enc := enc) (C := Tryz.checked) (s := Rows.OpenSpec.upto Rows.planRoundTripSpec) (k := Rows.uptoSmall) (X := laidMetH Tryz.prog Vj) rfl false (Mv os) #[.agg #[.slice none 0 0, .slice none 0 0]] 8 rfl (by kernel_rfl) (by kernel_rfl) (by kernel_rfl)
      (x := ([.agg [.nil, .nil]], [], [])) (by kernel_rfl) rfl (by kernel_rfl) (Ev os _) (by kernel_rfl)) ?_
  intro W base args ds gs before hval hW _ hk _ hX
  refine KA (P := Tryz.prog) (fn := Tryz.f5) (spec := Rows.planRoundTripSpec) (tb := 4) (B := 1048576) ?_ rfl I2 (by kernel_rfl) (by kernel_rfl) Tryz.underlying4 (fun xs h => planRoundTrip_args h) hval hW (.inr (CD hk)) (El hX)
  intro ds hds
  rw [show Tryz.f5.params.toList = [46] from by rw [Tryz.params5]] at hds
  match ds, hds with
  | [d1], _ => rfl

theorem planRoundTrip_holds : Rows.PlanRoundTripUptoSaid :=
  OpenClaim.holds_of_cond 5 Tryz.f5 rfl rfl rfl rfl rfl rfl rfl ⟨rfl, rfl, rfl, rfl, rfl⟩ rfl rfl rfl rfl rfl (by kernel_rfl) Tryz.func5 (Eu aS Uv Uw Ux Uy (by kernel_rfl))
    (of_decide_eq_true (by kernel_rfl)) (by unfold Func.isWrapper; first | (rw [if_pos (by decide +kernel)]; kernel_rfl) | (rw [if_neg (by decide +kernel)]; exact ⟨rfl, rfl⟩))
    (fun os started H enc _ F => planRoundTrip_lifted os started H enc F)
theorem planRoundTrip_card : Rows.PlanRoundTripUptoCardSaid :=
  Claim7.holds_tied_plain_at .later [] [.data, .data, .data, .sentinel, .sentinel] true (true, "80fe5eea182c748f304475dbe8dc5fda16e967ac494a9253f26acc6e8d80e050") true
    planRoundTrip_holds (fun _ h => by cases h) Uz (fun _ h => by cases h) planRoundTripUpto_row_tie rfl ⟨rfl, rfl⟩ UB rfl
    (fun f fn hf hfn => by
      obtain rfl : f = 5 := Option.some.inj (planRoundTrip_k3.symm.trans hf) |>.symm
      obtain rfl : fn = Tryz.f5 := (Option.some.inj (Tryz.func5.symm.trans hfn)).symm
      exact ⟨UC, fun j t ht => by
        have hm : t ∈ Tryz.f5.params.toList := List.mem_of_getElem? (by simpa using ht)
        rw [show Tryz.f5.params.toList = [46] from by rw [Tryz.params5]] at hm
        simp only [List.mem_cons, List.not_mem_nil, or_false] at hm
        subst hm; exact (show Tryz.prog.wantsStandIn 46 = false by kernel_rfl)⟩)
    UA
end Go.Proofs.YtmbelkfkhclnkaaGreatDoor.K
