
/- The statement PlanSortsUptoCardSaid is proved: for every input of bulk at most 1048576 the law PlanSorts returns true and leaves its arguments as they were. Conditions: the bulk, and what the listed package-level variables hold at the start (the law does not read them), as the given row has it; the card ties the latter to the text of the program by the given tie. -/
import Derived.Test.YtmbelkfkhclnkaaGreatDoorZS21
import Derived.Test.YtmbelkfkhclnkaaGreatDoorCards
import Derived.SevenTiedAt
set_option linter.unusedVariables false
set_option linter.unusedSimpArgs false
namespace Go.Proofs.YtmbelkfkhclnkaaGreatDoor.K
open Go Go.AM Go.Proofs Go.RowKit

theorem planSorts_args {xs} (h : Ur Tryz.prog 1048576 Tryz.f7.params.toList xs) : ACalls Tryz.prog 7 (xs.map .p) [] fun x H' => x = .p (.bool true) /\ H' = [] := by
  rw [show Tryz.f7.params.toList = [60, 46] from by rw [Tryz.params7]] at h
  obtain ⟨z1, r1, rfl, h1, h⟩ := QU h
  obtain ⟨z2, r2, rfl, h2, h⟩ := QU h
  obtain rfl := DG h
  obtain ⟨x1, rfl, w1⟩ := Ij h1
  obtain ⟨x2, rfl, w2⟩ := Nb h2
  exact A3 x1 w1 x2 w2

set_option maxRecDepth 100000 in
theorem planSorts_lifted (os : Os) (started : os.Started) (H : Type) (enc : TypeId × Value -> H) (F : Stop.Interp) :
    ReturnsInHanded {} Tryz.checked os 7 .any (fun w args => ((Rows.OpenSpec.upto Rows.planSortsSpec).pre enc Tryz.prog Tryz.f7 Rows.planSortsUptoRow.domain false w args /\ laidMetH Tryz.prog Ui w) /\ sizedMet enc Tryz.prog Tryz.f7 (Rows.OpenSpec.upto Rows.planSortsSpec) false w args) (((Rows.OpenSpec.upto Rows.planSortsSpec).at F).post enc Tryz.prog Tryz.f7 false true false false) := by
  refine Ch (C := Tryz.checked) (s := Rows.OpenSpec.upto Rows.planSortsSpec) (k := Rows.uptoSmall) (X := laidMetH Tryz.prog Ui) rfl own started (by kernel_rfl) Tryz.func7
    (Br (enc := enc) (C := Tryz.checked) (s := Rows.OpenSpec.upto Rows.planSortsSpec) (k := Rows.uptoSmall) (X := laidMetH Tryz.prog Ui) rfl false (O2 os) #[.agg #[.slice none 0 0, .slice none 0 0, .slice none 0 0, .slice none 0 0, .slice none 0 0, .slice none 0 0], .agg #[.slice none 0 0, .slice none 0 0]] 8 rfl (by kernel_rfl) (by kernel_rfl) (by kernel_rfl)
      (x := ([.agg [.agg [.nil, .nil], .nil, .nil, .nil, .nil], .agg [.nil, .nil]], [], [])) (by kernel_rfl) rfl (by kernel_rfl) (Gv os _) (by kernel_rfl)) ?_
  intro W base args ds gs before hval hW _ hk _ hX
  refine A4 (P := Tryz.prog) (fn := Tryz.f7) (spec := Rows.planSortsSpec) (tb := 4) (B := 1048576) ?_ rfl Nu (by kernel_rfl) (by kernel_rfl) Tryz.underlying4 (fun xs h => planSorts_args h) hval hW (.inr (En hk)) (Gi hX)
  intro ds hds
  rw [show Tryz.f7.params.toList = [60, 46] from by rw [Tryz.params7]] at hds
  match ds, hds with
  | [d1, d2], _ => rfl

theorem planSorts_holds : Rows.PlanSortsUptoSaid :=
  OpenClaim.holds_of_cond 7 Tryz.f7 rfl rfl rfl rfl rfl rfl rfl ⟨rfl, rfl, rfl, rfl, rfl⟩ rfl rfl rfl rfl rfl (by kernel_rfl) Tryz.func7 (Gt kK A9 Ba Bb Bc (by kernel_rfl))
    (of_decide_eq_true (by kernel_rfl)) (by unfold Func.isWrapper; first | (rw [if_pos (by decide +kernel)]; kernel_rfl) | (rw [if_neg (by decide +kernel)]; exact ⟨rfl, rfl⟩))
    (fun os started H enc _ F => planSorts_lifted os started H enc F)
theorem planSorts_card : Rows.PlanSortsUptoCardSaid :=
  Claim7.holds_tied_plain_at .later [] [.data, .data, .data, .sentinel, .sentinel] true (true, "80fe5eea182c748f304475dbe8dc5fda16e967ac494a9253f26acc6e8d80e050") true
    planSorts_holds (fun _ h => by cases h) Bd (fun _ h => by cases h) planSortsUpto_row_tie rfl ⟨rfl, rfl⟩ Bf rfl
    (fun f fn hf hfn => by
      obtain rfl : f = 7 := Option.some.inj (planSorts_k3.symm.trans hf) |>.symm
      obtain rfl : fn = Tryz.f7 := (Option.some.inj (Tryz.func7.symm.trans hfn)).symm
      exact ⟨Bg, fun j t ht => by
        have hm : t ∈ Tryz.f7.params.toList := List.mem_of_getElem? (by simpa using ht)
        rw [show Tryz.f7.params.toList = [60, 46] from by rw [Tryz.params7]] at hm
        simp only [List.mem_cons, List.not_mem_nil, or_false] at hm
        rcases hm with rfl | rfl
        · exact (show Tryz.prog.wantsStandIn 60 = false by kernel_rfl)
        · exact (show Tryz.prog.wantsStandIn 46 = false by kernel_rfl)⟩)
    Be
end Go.Proofs.YtmbelkfkhclnkaaGreatDoor.K
