
/- The statement ShadowPricesUptoCardSaid is proved: for every input of bulk at most 1048576 the law ShadowPrices returns true and leaves its arguments as they were. Conditions: the bulk, and what the listed package-level variables hold at the start (the law does not read them), as the given row has it; the card ties the latter to the text of the program by the given tie. -/
import Derived.Test.YtenjikkmmibffaaGreatDoorZ18
import Derived.Test.YtenjikkmmibffaaGreatDoorCards
import Derived.SevenTiedAt
set_option linter.unusedVariables false
set_option linter.unusedSimpArgs false
namespace Go.Proofs.YtenjikkmmibffaaGreatDoor.K
open Go Go.AM Go.Proofs Go.RowKit

theorem shadowPrices_args {xs} (h : Ba Tryz.prog 1048576 Tryz.f4.params.toList xs) : ACalls Tryz.prog 4 (xs.map .p) [] fun x H' => x = .p (.bool true) /\ H' = [] := by
  rw [show Tryz.f4.params.toList = [30, 32, 49] from by rw [Tryz.params4]] at h
  obtain ⟨z1, r1, rfl, h1, h⟩ := Kx h
  obtain ⟨z2, r2, rfl, h2, h⟩ := Kx h
  obtain ⟨z3, r3, rfl, h3, h⟩ := Kx h
  obtain rfl := O3 h
  obtain ⟨x1, rfl, w1⟩ := fY h1
  obtain ⟨x2, rfl, w2⟩ := Rx h2
  obtain ⟨x3, rfl, w3, u3⟩ := fZ h3
  exact GY x1 w1 x2 x3 false w3

set_option maxRecDepth 100000 in
theorem shadowPrices_lifted (os : Os) (started : os.Started) (H : Type) (enc : TypeId × Value -> H) (F : Stop.Interp) :
    ReturnsInHanded {} Tryz.checked os 4 .any (fun w args => ((Rows.OpenSpec.upto Rows.shadowPricesSpec).pre enc Tryz.prog Tryz.f4 Rows.shadowPricesUptoRow.domain false w args /\ laidMetH Tryz.prog Ca w) /\ sizedMet enc Tryz.prog Tryz.f4 (Rows.OpenSpec.upto Rows.shadowPricesSpec) false w args) (((Rows.OpenSpec.upto Rows.shadowPricesSpec).at F).post enc Tryz.prog Tryz.f4 false true false false) := by
  refine MP (C := Tryz.checked) (s := Rows.OpenSpec.upto Rows.shadowPricesSpec) (k := Rows.uptoSmall) (X := laidMetH Tryz.prog Ca) rfl own started (by kernel_rfl) Tryz.func4
    (LU (enc := enc) (C := Tryz.checked) (s := Rows.OpenSpec.upto Rows.shadowPricesSpec) (k := Rows.uptoSmall) (X := laidMetH Tryz.prog Ca) rfl false (vL os) #[.agg #[.slice none 0 0, .slice none 0 0, .slice none 0 0, .slice none 0 0, .slice none 0 0, .slice none 0 0], .agg #[.int .i64 0, .int .i64 0], .slice none 0 0] 8 rfl (by kernel_rfl) (by kernel_rfl) (by kernel_rfl)
      (x := ([.agg [.agg [.nil, .nil], .nil, .nil, .nil, .nil], .agg [.lit (.int .i64 0), .lit (.int .i64 0)], .nil], [], [])) (by kernel_rfl) rfl (by kernel_rfl) (TT os _) (by kernel_rfl)) ?_
  intro W base args ds gs before hval hW _ hk _ hX
  refine Lb (P := Tryz.prog) (fn := Tryz.f4) (spec := Rows.shadowPricesSpec) (tb := 4) (B := 1048576) ?_ rfl qZ (by kernel_rfl) (by kernel_rfl) Tryz.underlying4 (fun xs h => shadowPrices_args h) hval hW (.inr (PM hk)) (Tw hX)
  intro ds hds
  rw [show Tryz.f4.params.toList = [30, 32, 49] from by rw [Tryz.params4]] at hds
  match ds, hds with
  | [d1, d2, d3], _ => rfl

theorem shadowPrices_holds : Rows.ShadowPricesUptoSaid :=
  OpenClaim.holds_of_cond 4 Tryz.f4 rfl rfl rfl rfl rfl rfl rfl ⟨rfl, rfl, rfl, rfl, rfl⟩ rfl rfl rfl rfl rfl (by kernel_rfl) Tryz.func4 (TP Zhn Eg Eh Ei Ej (by kernel_rfl))
    (of_decide_eq_true (by kernel_rfl)) (by unfold Func.isWrapper; first | (rw [if_pos (by decide +kernel)]; kernel_rfl) | (rw [if_neg (by decide +kernel)]; exact ⟨rfl, rfl⟩))
    (fun os started H enc _ F => shadowPrices_lifted os started H enc F)
theorem shadowPrices_card : Rows.ShadowPricesUptoCardSaid :=
  Claim7.holds_tied_plain_at .later [] [.data, .data, .data] true (true, "49f178dbb4b16adf6ff54d8cd3900edf5e5a4cbd46db93f1d53abce9e6351c5a") false
    shadowPrices_holds (fun _ h => by cases h) Ek (fun _ h => by cases h) shadowPricesUpto_row_tie rfl ⟨rfl, rfl⟩ Em rfl
    (fun f fn hf hfn => by
      obtain rfl : f = 4 := Option.some.inj (shadowPrices_k3.symm.trans hf) |>.symm
      obtain rfl : fn = Tryz.f4 := (Option.some.inj (Tryz.func4.symm.trans hfn)).symm
      exact ⟨En, fun j t ht => by
        have hm : t ∈ Tryz.f4.params.toList := List.mem_of_getElem? (by simpa using ht)
        rw [show Tryz.f4.params.toList = [30, 32, 49] from by rw [Tryz.params4]] at hm
        simp only [List.mem_cons, List.not_mem_nil, or_false] at hm
        rcases hm with rfl | rfl | rfl
        · exact (show Tryz.prog.wantsStandIn 30 = false by kernel_rfl)
        · exact (show Tryz.prog.wantsStandIn 32 = false by kernel_rfl)
        · exact (show Tryz.prog.wantsStandIn 49 = false by kernel_rfl)⟩)
    El
end Go.Proofs.YtenjikkmmibffaaGreatDoor.K
