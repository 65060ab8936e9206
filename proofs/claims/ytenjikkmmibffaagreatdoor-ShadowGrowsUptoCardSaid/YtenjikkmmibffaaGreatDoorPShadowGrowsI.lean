
/- The statement ShadowGrowsUptoCardSaid is proved: for every input of bulk at most 1048576 the law ShadowGrows returns true and leaves its arguments as they were. Conditions: the bulk, and what the listed package-level variables hold at the start (the law does not read them), as the given row has it; the card ties the latter to the text of the program by the given tie. -/
import Derived.Test.YtenjikkmmibffaaGreatDoorI18
import Derived.Test.YtenjikkmmibffaaGreatDoorCards
import Derived.SevenTiedAt
set_option linter.unusedVariables false
set_option linter.unusedSimpArgs false
namespace Go.Proofs.YtenjikkmmibffaaGreatDoor.K
open Go Go.AM Go.Proofs Go.RowKit

theorem shadowGrows_args {xs} (h : Bg Tryz.prog 1048576 Tryz.f5.params.toList xs) : ACalls Tryz.prog 5 (xs.map .p) [] fun x H' => x = .p (.bool true) /\ H' = [] := by
  rw [show Tryz.f5.params.toList = [30, 49, 32] from by rw [Tryz.params5]] at h
  obtain ⟨z1, r1, rfl, h1, h⟩ := KA h
  obtain ⟨z2, r2, rfl, h2, h⟩ := KA h
  obtain ⟨z3, r3, rfl, h3, h⟩ := KA h
  obtain rfl := Ph h
  obtain ⟨x1, rfl, w1⟩ := gV h1
  obtain ⟨x2, rfl, w2, u2⟩ := gW h2
  obtain ⟨x3, rfl, w3⟩ := RN h3
  exact Ll x1 w1 x2 false w2 x3

set_option maxRecDepth 100000 in
theorem shadowGrows_lifted (os : Os) (started : os.Started) (H : Type) (enc : TypeId × Value -> H) (F : Stop.Interp) :
    ReturnsInHanded {} Tryz.checked os 5 .any (fun w args => ((Rows.OpenSpec.upto Rows.shadowGrowsSpec).pre enc Tryz.prog Tryz.f5 Rows.shadowGrowsUptoRow.domain false w args /\ laidMetH Tryz.prog Ci w) /\ sizedMet enc Tryz.prog Tryz.f5 (Rows.OpenSpec.upto Rows.shadowGrowsSpec) false w args) (((Rows.OpenSpec.upto Rows.shadowGrowsSpec).at F).post enc Tryz.prog Tryz.f5 false true false false) := by
  refine M1 (C := Tryz.checked) (s := Rows.OpenSpec.upto Rows.shadowGrowsSpec) (k := Rows.uptoSmall) (X := laidMetH Tryz.prog Ci) rfl own started (by kernel_rfl) Tryz.func5
    (L9 (enc := enc) (C := Tryz.checked) (s := Rows.OpenSpec.upto Rows.shadowGrowsSpec) (k := Rows.uptoSmall) (X := laidMetH Tryz.prog Ci) rfl false (wH os) #[.agg #[.slice none 0 0, .slice none 0 0, .slice none 0 0, .slice none 0 0, .slice none 0 0, .slice none 0 0], .slice none 0 0, .agg #[.int .i64 0, .int .i64 0]] 8 rfl (by kernel_rfl) (by kernel_rfl) (by kernel_rfl)
      (x := ([.agg [.agg [.nil, .nil], .nil, .nil, .nil, .nil], .nil, .agg [.lit (.int .i64 0), .lit (.int .i64 0)]], [], [])) (by kernel_rfl) rfl (by kernel_rfl) (T9 os _) (by kernel_rfl)) ?_
  intro W base args ds gs before hval hW _ hk _ hX
  refine Lm (P := Tryz.prog) (fn := Tryz.f5) (spec := Rows.shadowGrowsSpec) (tb := 4) (B := 1048576) ?_ rfl rU (by kernel_rfl) (by kernel_rfl) Tryz.underlying4 (fun xs h => shadowGrows_args h) hval hW (.inr (P3 hk)) (TL hX)
  intro ds hds
  rw [show Tryz.f5.params.toList = [30, 49, 32] from by rw [Tryz.params5]] at hds
  match ds, hds with
  | [d1, d2, d3], _ => rfl

theorem shadowGrows_holds : Rows.ShadowGrowsUptoSaid :=
  OpenClaim.holds_of_cond 5 Tryz.f5 rfl rfl rfl rfl rfl rfl rfl ⟨rfl, rfl, rfl, rfl, rfl⟩ rfl rfl rfl rfl rfl (by kernel_rfl) Tryz.func5 (T5 ZhJ Gn Gp Gq Gs (by kernel_rfl))
    (of_decide_eq_true (by kernel_rfl)) (by unfold Func.isWrapper; first | (rw [if_pos (by decide +kernel)]; kernel_rfl) | (rw [if_neg (by decide +kernel)]; exact ⟨rfl, rfl⟩))
    (fun os started H enc _ F => shadowGrows_lifted os started H enc F)
theorem shadowGrows_card : Rows.ShadowGrowsUptoCardSaid :=
  Claim7.holds_tied_plain_at .later [] [.data, .data, .data] true (true, "49f178dbb4b16adf6ff54d8cd3900edf5e5a4cbd46db93f1d53abce9e6351c5a") false
    shadowGrows_holds (fun _ h => by cases h) Gt (fun _ h => by cases h) shadowGrowsUpto_row_tie rfl ⟨rfl, rfl⟩ Gv rfl
    (fun f fn hf hfn => by
      obtain rfl : f = 5 := Option.some.inj (shadowGrows_k3.symm.trans hf) |>.symm
      obtain rfl : fn = Tryz.f5 := (Option.some.inj (Tryz.func5.symm.trans hfn)).symm
      exact ⟨Gw, fun j t ht => by
        have hm : t ∈ Tryz.f5.params.toList := List.mem_of_getElem? (by simpa using ht)
        rw [show Tryz.f5.params.toList = [30, 49, 32] from by rw [Tryz.params5]] at hm
        simp only [List.mem_cons, List.not_mem_nil, or_false] at hm
        rcases hm with rfl | rfl | rfl
        · exact (show Tryz.prog.wantsStandIn 30 = false by kernel_rfl)
        · exact (show Tryz.prog.wantsStandIn 49 = false by kernel_rfl)
        · exact (show Tryz.prog.wantsStandIn 32 = false by kernel_rfl)⟩)
    Gu
end Go.Proofs.YtenjikkmmibffaaGreatDoor.K
