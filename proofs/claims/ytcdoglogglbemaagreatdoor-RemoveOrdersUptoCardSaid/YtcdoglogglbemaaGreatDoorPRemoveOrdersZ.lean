
/- The statement RemoveOrdersUptoCardSaid is proved: for every input of bulk at most 1048576 the law RemoveOrders returns true and leaves its arguments as they were. Conditions: the bulk, and what the listed package-level variables hold at the start (the law does not read them), as the given row has it; the card ties the latter to the text of the program by the given tie. -/
import Derived.Test.YtcdoglogglbemaaGreatDoorZ16
import Derived.Test.YtcdoglogglbemaaGreatDoorBG2Z
import Derived.Test.YtcdoglogglbemaaGreatDoorPRemoveOrdersAZ
import Derived.Test.YtcdoglogglbemaaGreatDoorPRemoveOrdersBZ
import Derived.Test.YtcdoglogglbemaaGreatDoorCards
import Derived.SevenTiedAt
set_option linter.unusedVariables false
set_option linter.unusedSimpArgs false
namespace Go.Proofs.YtcdoglogglbemaaGreatDoor.K
open Go Go.AM Go.Proofs Go.RowKit

theorem removeOrders_args {xs} (h : FitAll Tryz.prog 1048576 Tryz.f3.params.toList xs) : ACalls Tryz.prog 3 (xs.map .p) [] fun x H' => x = .p (.bool true) ∧ H' = [] := by
  rw [show Tryz.f3.params.toList = [30, 34, 3] from by rw [Tryz.params3]] at h
  obtain ⟨z1, r1, rfl, h1, h⟩ := fitAll_cons h
  obtain ⟨z2, r2, rfl, h2, h⟩ := fitAll_cons h
  obtain ⟨z3, r3, rfl, h3, h⟩ := fitAll_cons h
  obtain rfl := fitAll_nil h
  obtain ⟨x1, rfl, w1⟩ := fit_Inst h1
  obtain ⟨x2, rfl, w2⟩ := fit_Pln h2
  obtain ⟨x3, rfl, w3⟩ := fit_int Tryz.underlying3 h3; have w3 := i64_wf w3
  exact lawRmOrders_c x1 w1 x2 w2 x3 w3

set_option maxRecDepth 100000 in
theorem removeOrders_lifted (os : Os) (started : os.Started) (H : Type) (enc : TypeId × Value → H) (F : Stop.Interp) :
    ReturnsInHanded {} Tryz.checked os 3 .any (fun w args => ((Rows.OpenSpec.upto Rows.removeOrdersSpec).pre enc Tryz.prog Tryz.f3 Rows.removeOrdersUptoRow.domain false w args ∧ laidMetH Tryz.prog laid3 w) ∧ sizedMet enc Tryz.prog Tryz.f3 (Rows.OpenSpec.upto Rows.removeOrdersSpec) false w args) (((Rows.OpenSpec.upto Rows.removeOrdersSpec).at F).post enc Tryz.prog Tryz.f3 false true false false) := by
  refine handed_laid (C := Tryz.checked) (s := Rows.OpenSpec.upto Rows.removeOrdersSpec) (k := Rows.uptoSmall) (X := laidMetH Tryz.prog laid3) rfl own started (by kernel_rfl) Tryz.func3
    (witness_laid (enc := enc) (C := Tryz.checked) (s := Rows.OpenSpec.upto Rows.removeOrdersSpec) (k := Rows.uptoSmall) (X := laidMetH Tryz.prog laid3) rfl false (laidW os) #[.agg #[.slice none 0 0, .slice none 0 0, .slice none 0 0, .slice none 0 0, .slice none 0 0, .slice none 0 0], .agg #[.slice none 0 0, .slice none 0 0], .int .i64 0] 8 rfl (by kernel_rfl) (by kernel_rfl) (by kernel_rfl)
      (x := ([.agg [.agg [.nil, .nil], .nil, .nil, .nil, .nil], .agg [.nil, .nil], .lit (.int .i64 0)], [], [])) (by kernel_rfl) rfl (by kernel_rfl) (laidW_met os _) (by kernel_rfl)) ?_
  intro W base args ds gs before hval hW _ hk _ hX
  refine law_contract (P := Tryz.prog) (fn := Tryz.f3) (spec := Rows.removeOrdersSpec) (tb := 4) (B := 1048576) ?_ rfl laidOut (by kernel_rfl) (by kernel_rfl) Tryz.underlying4 (fun xs h => removeOrders_args h) hval hW (.inr (small_dszs hk)) (env_laid3 hX)
  intro ds hds
  rw [show Tryz.f3.params.toList = [30, 34, 3] from by rw [Tryz.params3]] at hds
  match ds, hds with
  | [d1, d2, d3], _ => rfl

theorem removeOrders_holds : Rows.RemoveOrdersUptoSaid :=
  OpenClaim.holds_of_cond 3 Tryz.f3 rfl rfl rfl rfl rfl rfl rfl ⟨rfl, rfl, rfl, rfl, rfl⟩ rfl rfl rfl rfl rfl (by kernel_rfl) Tryz.func3 (joined_of globB removeOrders_h1 removeOrders_h2 removeOrders_h3 removeOrders_h4 (by kernel_rfl))
    (of_decide_eq_true (by kernel_rfl)) (by unfold Func.isWrapper; first | (rw [if_pos (by decide +kernel)]; kernel_rfl) | (rw [if_neg (by decide +kernel)]; exact ⟨rfl, rfl⟩))
    (fun os started H enc _ F => removeOrders_lifted os started H enc F)
theorem removeOrders_card : Rows.RemoveOrdersUptoCardSaid :=
  Claim7.holds_tied_plain_at .later [] [.data, .data, .data] true (true, "24d26ef79c81d03697112dd31db44e49fbcbcace4f1341fd48d75ffd43531fcd") false
    removeOrders_holds (fun _ h => by cases h) removeOrders_k1 (fun _ h => by cases h) removeOrdersUpto_row_tie rfl ⟨rfl, rfl⟩ removeOrders_k4 rfl
    (fun f fn hf hfn => by
      obtain rfl : f = 3 := Option.some.inj (removeOrders_k3.symm.trans hf) |>.symm
      obtain rfl : fn = Tryz.f3 := (Option.some.inj (Tryz.func3.symm.trans hfn)).symm
      exact ⟨removeOrders_k5, fun j t ht => by
        have hm : t ∈ Tryz.f3.params.toList := List.mem_of_getElem? (by simpa using ht)
        rw [show Tryz.f3.params.toList = [30, 34, 3] from by rw [Tryz.params3]] at hm
        simp only [List.mem_cons, List.not_mem_nil, or_false] at hm
        rcases hm with rfl | rfl | rfl
        · exact (show Tryz.prog.wantsStandIn 30 = false by kernel_rfl)
        · exact (show Tryz.prog.wantsStandIn 34 = false by kernel_rfl)
        · exact (show Tryz.prog.wantsStandIn 3 = false by kernel_rfl)⟩)
    removeOrders_k2
end Go.Proofs.YtcdoglogglbemaaGreatDoor.K
