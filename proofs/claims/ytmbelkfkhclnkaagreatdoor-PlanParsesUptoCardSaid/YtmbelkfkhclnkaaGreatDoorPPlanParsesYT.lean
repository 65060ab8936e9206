
/- The statement PlanParsesUptoCardSaid is proved: for every input of bulk at most 1048576 the law PlanParses returns true and leaves its arguments as they were. Conditions: the bulk, and what the listed package-level variables hold at the start (the law does not read them), as the given row has it; the card ties the latter to the text of the program by the given tie. -/
import Derived.Test.YtmbelkfkhclnkaaGreatDoorYT19
import Derived.Test.YtmbelkfkhclnkaaGreatDoorCards
import Derived.SevenTiedAt
set_option linter.unusedVariables false
set_option linter.unusedSimpArgs false
namespace Go.Proofs.YtmbelkfkhclnkaaGreatDoor.K
open Go Go.AM Go.Proofs Go.RowKit

theorem planParses_args {xs} (h : Vk Tryz.prog 1048576 Tryz.f6.params.toList xs) : ACalls Tryz.prog 6 (xs.map .p) [] fun x H' => x = .p (.bool true) /\ H' = [] := by
  rw [show Tryz.f6.params.toList = [9] from by rw [Tryz.params6]] at h
  obtain ⟨z1, r1, rfl, h1, h⟩ := Aa h
  obtain rfl := BH h
  obtain ⟨x1, rfl, w1, _⟩ := Iu Tryz.underlying9 h1
  exact Q2 x1 w1

set_option maxRecDepth 100000 in
theorem planParses_lifted (os : Os) (started : os.Started) (H : Type) (enc : TypeId × Value -> H) (F : Stop.Interp) :
    ReturnsInHanded {} Tryz.checked os 6 .any (fun w args => ((Rows.OpenSpec.upto Rows.planParsesSpec).pre enc Tryz.prog Tryz.f6 Rows.planParsesUptoRow.domain false w args /\ laidMetH Tryz.prog Vf w) /\ sizedMet enc Tryz.prog Tryz.f6 (Rows.OpenSpec.upto Rows.planParsesSpec) false w args) (((Rows.OpenSpec.upto Rows.planParsesSpec).at F).post enc Tryz.prog Tryz.f6 false true false false) := by
  refine Ag (C := Tryz.checked) (s := Rows.OpenSpec.upto Rows.planParsesSpec) (k := Rows.uptoSmall) (X := laidMetH Tryz.prog Vf) rfl own started (by kernel_rfl) Tryz.func6
    (Ky (enc := enc) (C := Tryz.checked) (s := Rows.OpenSpec.upto Rows.planParsesSpec) (k := Rows.uptoSmall) (X := laidMetH Tryz.prog Vf) rfl false (L9 os) #[.string ⟨#[]⟩] 8 rfl (by kernel_rfl) (by kernel_rfl) (by kernel_rfl)
      (x := ([.lit (.string [])], [], [])) (by kernel_rfl) rfl (by kernel_rfl) (D9 os _) (by kernel_rfl)) ?_
  intro W base args ds gs before hval hW _ hk _ hX
  refine Kk (P := Tryz.prog) (fn := Tryz.f6) (spec := Rows.planParsesSpec) (tb := 4) (B := 1048576) ?_ rfl IF (by kernel_rfl) (by kernel_rfl) Tryz.underlying4 (fun xs h => planParses_args h) hval hW (.inr (Ch hk)) (D1 hX)
  intro ds hds
  rw [show Tryz.f6.params.toList = [9] from by rw [Tryz.params6]] at hds
  match ds, hds with
  | [d1], _ => rfl

theorem planParses_holds : Rows.PlanParsesUptoSaid :=
  OpenClaim.holds_of_cond 6 Tryz.f6 rfl rfl rfl rfl rfl rfl rfl ⟨rfl, rfl, rfl, rfl, rfl⟩ rfl rfl rfl rfl rfl (by kernel_rfl) Tryz.func6 (D8 TX Q4 Q5 Q6 Q7 (by kernel_rfl))
    (of_decide_eq_true (by kernel_rfl)) (by unfold Func.isWrapper; first | (rw [if_pos (by decide +kernel)]; kernel_rfl) | (rw [if_neg (by decide +kernel)]; exact ⟨rfl, rfl⟩))
    (fun os started H enc _ F => planParses_lifted os started H enc F)
theorem planParses_card : Rows.PlanParsesUptoCardSaid :=
  Claim7.holds_tied_plain_at .later [] [.data, .data, .data, .sentinel, .sentinel] true (true, "80fe5eea182c748f304475dbe8dc5fda16e967ac494a9253f26acc6e8d80e050") true
    planParses_holds (fun _ h => by cases h) Q8 (fun _ h => by cases h) planParsesUpto_row_tie rfl ⟨rfl, rfl⟩ Ja rfl
    (fun f fn hf hfn => by
      obtain rfl : f = 6 := Option.some.inj (planParses_k3.symm.trans hf) |>.symm
      obtain rfl : fn = Tryz.f6 := (Option.some.inj (Tryz.func6.symm.trans hfn)).symm
      exact ⟨Jb, fun j t ht => by
        have hm : t ∈ Tryz.f6.params.toList := List.mem_of_getElem? (by simpa using ht)
        rw [show Tryz.f6.params.toList = [9] from by rw [Tryz.params6]] at hm
        simp only [List.mem_cons, List.not_mem_nil, or_false] at hm
        subst hm; exact (show Tryz.prog.wantsStandIn 9 = false by kernel_rfl)⟩)
    Q9
end Go.Proofs.YtmbelkfkhclnkaaGreatDoor.K
