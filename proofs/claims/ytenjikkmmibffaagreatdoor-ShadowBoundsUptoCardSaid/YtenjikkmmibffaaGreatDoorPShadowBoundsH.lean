
/- The statement ShadowBoundsUptoCardSaid is proved: for every input of bulk at most 1048576 the law ShadowBounds returns true and leaves its arguments as they were. Conditions: the bulk, and what the listed package-level variables hold at the start (the law does not read them), as the given row has it; the card ties the latter to the text of the program by the given tie. -/
import Derived.Test.YtenjikkmmibffaaGreatDoorH18
import Derived.Test.YtenjikkmmibffaaGreatDoorCards
import Derived.SevenTiedAt
set_option linter.unusedVariables false
set_option linter.unusedSimpArgs false
namespace Go.Proofs.YtenjikkmmibffaaGreatDoor.K
open Go Go.AM Go.Proofs Go.RowKit

theorem shadowBounds_args {xs} (h : Bz Tryz.prog 1048576 Tryz.f3.params.toList xs) : ACalls Tryz.prog 3 (xs.map .p) [] fun x H' => x = .p (.bool true) /\ H' = [] := by
  rw [show Tryz.f3.params.toList = [30, 32, 36] from by rw [Tryz.params3]] at h
  obtain ⟨z1, r1, rfl, h1, h⟩ := KZ h
  obtain ⟨z2, r2, rfl, h2, h⟩ := KZ h
  obtain ⟨z3, r3, rfl, h3, h⟩ := KZ h
  obtain rfl := P8 h
  obtain ⟨x1, rfl, w1⟩ := kH h1
  obtain ⟨x2, rfl, w2⟩ := tS h2
  obtain ⟨x3, rfl, w3⟩ := tU h3
  exact HD x1 w1 x2 x3 w3

set_option maxRecDepth 100000 in
theorem shadowBounds_lifted (os : Os) (started : os.Started) (H : Type) (enc : TypeId × Value -> H) (F : Stop.Interp) :
    ReturnsInHanded {} Tryz.checked os 3 .any (fun w args => ((Rows.OpenSpec.upto Rows.shadowBoundsSpec).pre enc Tryz.prog Tryz.f3 Rows.shadowBoundsUptoRow.domain false w args /\ laidMetH Tryz.prog CH w) /\ sizedMet enc Tryz.prog Tryz.f3 (Rows.OpenSpec.upto Rows.shadowBoundsSpec) false w args) (((Rows.OpenSpec.upto Rows.shadowBoundsSpec).at F).post enc Tryz.prog Tryz.f3 false true false false) := by
  refine NN (C := Tryz.checked) (s := Rows.OpenSpec.upto Rows.shadowBoundsSpec) (k := Rows.uptoSmall) (X := laidMetH Tryz.prog CH) rfl own started (by kernel_rfl) Tryz.func3
    (MN (enc := enc) (C := Tryz.checked) (s := Rows.OpenSpec.upto Rows.shadowBoundsSpec) (k := Rows.uptoSmall) (X := laidMetH Tryz.prog CH) rfl false (zG os) #[.agg #[.slice none 0 0, .slice none 0 0, .slice none 0 0, .slice none 0 0, .slice none 0 0, .slice none 0 0], .agg #[.int .i64 0, .int .i64 0], .agg #[.slice none 0 0, .slice none 0 0]] 8 rfl (by kernel_rfl) (by kernel_rfl) (by kernel_rfl)
      (x := ([.agg [.agg [.nil, .nil], .nil, .nil, .nil, .nil], .agg [.lit (.int .i64 0), .lit (.int .i64 0)], .agg [.nil, .nil]], [], [])) (by kernel_rfl) rfl (by kernel_rfl) (cG os _) (by kernel_rfl)) ?_
  intro W base args ds gs before hval hW _ hk _ hX
  refine L7 (P := Tryz.prog) (fn := Tryz.f3) (spec := Rows.shadowBoundsSpec) (tb := 4) (B := 1048576) ?_ rfl uS (by kernel_rfl) (by kernel_rfl) Tryz.underlying4 (fun xs h => shadowBounds_args h) hval hW (.inr (RS hk)) (bH hX)
  intro ds hds
  rw [show Tryz.f3.params.toList = [30, 32, 36] from by rw [Tryz.params3]] at hds
  match ds, hds with
  | [d1, d2, d3], _ => rfl

theorem shadowBounds_holds : Rows.ShadowBoundsUptoSaid :=
  OpenClaim.holds_of_cond 3 Tryz.f3 rfl rfl rfl rfl rfl rfl rfl ⟨rfl, rfl, rfl, rfl, rfl⟩ rfl rfl rfl rfl rfl (by kernel_rfl) Tryz.func3 (bZ Zi6 ET EU EV EW (by kernel_rfl))
    (of_decide_eq_true (by kernel_rfl)) (by unfold Func.isWrapper; first | (rw [if_pos (by decide +kernel)]; kernel_rfl) | (rw [if_neg (by decide +kernel)]; exact ⟨rfl, rfl⟩))
    (fun os started H enc _ F => shadowBounds_lifted os started H enc F)
theorem shadowBounds_card : Rows.ShadowBoundsUptoCardSaid :=
  Claim7.holds_tied_plain_at .later [] [.data, .data, .data] true (true, "49f178dbb4b16adf6ff54d8cd3900edf5e5a4cbd46db93f1d53abce9e6351c5a") false
    shadowBounds_holds (fun _ h => by cases h) EX (fun _ h => by cases h) shadowBoundsUpto_row_tie rfl ⟨rfl, rfl⟩ EZ rfl
    (fun f fn hf hfn => by
      obtain rfl : f = 3 := Option.some.inj (shadowBounds_k3.symm.trans hf) |>.symm
      obtain rfl : fn = Tryz.f3 := (Option.some.inj (Tryz.func3.symm.trans hfn)).symm
      exact ⟨E0, fun j t ht => by
        have hm : t ∈ Tryz.f3.params.toList := List.mem_of_getElem? (by simpa using ht)
        rw [show Tryz.f3.params.toList = [30, 32, 36] from by rw [Tryz.params3]] at hm
        simp only [List.mem_cons, List.not_mem_nil, or_false] at hm
        rcases hm with rfl | rfl | rfl
        · exact (show Tryz.prog.wantsStandIn 30 = false by kernel_rfl)
        · exact (show Tryz.prog.wantsStandIn 32 = false by kernel_rfl)
        · exact (show Tryz.prog.wantsStandIn 36 = false by kernel_rfl)⟩)
    EY
end Go.Proofs.YtenjikkmmibffaaGreatDoor.K
