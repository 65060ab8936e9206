
/- The statement ShadowRanksUptoCardSaid is proved: for every input of bulk at most 1048576 the law ShadowRanks returns true and leaves its arguments as they were. Conditions: the bulk, and what the listed package-level variables hold at the start (the law does not read them), as the given row has it; the card ties the latter to the text of the program by the given tie. -/
import Derived.Test.YtenjikkmmibffaaGreatDoorY18
import Derived.Test.YtenjikkmmibffaaGreatDoorCards
import Derived.SevenTiedAt
set_option linter.unusedVariables false
set_option linter.unusedSimpArgs false
namespace Go.Proofs.YtenjikkmmibffaaGreatDoor.K
open Go Go.AM Go.Proofs Go.RowKit

theorem shadowRanks_args {xs} (h : Bm Tryz.prog 1048576 Tryz.f6.params.toList xs) : ACalls Tryz.prog 6 (xs.map .p) [] fun x H' => x = .p (.bool true) /\ H' = [] := by
  rw [show Tryz.f6.params.toList = [30] from by rw [Tryz.params6]] at h
  obtain ⟨z1, r1, rfl, h1, h⟩ := M1 h
  obtain rfl := Pw h
  obtain ⟨x1, rfl, w1⟩ := iN h1
  exact Lt x1 w1

set_option maxRecDepth 100000 in
theorem shadowRanks_lifted (os : Os) (started : os.Started) (H : Type) (enc : TypeId × Value -> H) (F : Stop.Interp) :
    ReturnsInHanded {} Tryz.checked os 6 .any (fun w args => ((Rows.OpenSpec.upto Rows.shadowRanksSpec).pre enc Tryz.prog Tryz.f6 Rows.shadowRanksUptoRow.domain false w args /\ laidMetH Tryz.prog Cq w) /\ sizedMet enc Tryz.prog Tryz.f6 (Rows.OpenSpec.upto Rows.shadowRanksSpec) false w args) (((Rows.OpenSpec.upto Rows.shadowRanksSpec).at F).post enc Tryz.prog Tryz.f6 false true false false) := by
  refine Nb (C := Tryz.checked) (s := Rows.OpenSpec.upto Rows.shadowRanksSpec) (k := Rows.uptoSmall) (X := laidMetH Tryz.prog Cq) rfl own started (by kernel_rfl) Tryz.func6
    (Mf (enc := enc) (C := Tryz.checked) (s := Rows.OpenSpec.upto Rows.shadowRanksSpec) (k := Rows.uptoSmall) (X := laidMetH Tryz.prog Cq) rfl false (wW os) #[.agg #[.slice none 0 0, .slice none 0 0, .slice none 0 0, .slice none 0 0, .slice none 0 0, .slice none 0 0]] 8 rfl (by kernel_rfl) (by kernel_rfl) (by kernel_rfl)
      (x := ([.agg [.agg [.nil, .nil], .nil, .nil, .nil, .nil]], [], [])) (by kernel_rfl) rfl (by kernel_rfl) (aQ os _) (by kernel_rfl)) ?_
  intro W base args ds gs before hval hW _ hk _ hX
  refine Lu (P := Tryz.prog) (fn := Tryz.f6) (spec := Rows.shadowRanksSpec) (tb := 4) (B := 1048576) ?_ rfl sJ (by kernel_rfl) (by kernel_rfl) Tryz.underlying4 (fun xs h => shadowRanks_args h) hval hW (.inr (Ri hk)) (T2 hX)
  intro ds hds
  rw [show Tryz.f6.params.toList = [30] from by rw [Tryz.params6]] at hds
  match ds, hds with
  | [d1], _ => rfl

theorem shadowRanks_holds : Rows.ShadowRanksUptoSaid :=
  OpenClaim.holds_of_cond 6 Tryz.f6 rfl rfl rfl rfl rfl rfl rfl ⟨rfl, rfl, rfl, rfl, rfl⟩ rfl rfl rfl rfl rfl (by kernel_rfl) Tryz.func6 (aM Zh1 Gs Gt Gu Gv (by kernel_rfl))
    (of_decide_eq_true (by kernel_rfl)) (by unfold Func.isWrapper; first | (rw [if_pos (by decide +kernel)]; kernel_rfl) | (rw [if_neg (by decide +kernel)]; exact ⟨rfl, rfl⟩))
    (fun os started H enc _ F => shadowRanks_lifted os started H enc F)
theorem shadowRanks_card : Rows.ShadowRanksUptoCardSaid :=
  Claim7.holds_tied_plain_at .later [] [.data, .data, .data] true (true, "49f178dbb4b16adf6ff54d8cd3900edf5e5a4cbd46db93f1d53abce9e6351c5a") false
    shadowRanks_holds (fun _ h => by cases h) Gw (fun _ h => by cases h) shadowRanksUpto_row_tie rfl ⟨rfl, rfl⟩ Gy rfl
    (fun f fn hf hfn => by
      obtain rfl : f = 6 := Option.some.inj (shadowRanks_k3.symm.trans hf) |>.symm
      obtain rfl : fn = Tryz.f6 := (Option.some.inj (Tryz.func6.symm.trans hfn)).symm
      exact ⟨Gz, fun j t ht => by
        have hm : t ∈ Tryz.f6.params.toList := List.mem_of_getElem? (by simpa using ht)
        rw [show Tryz.f6.params.toList = [30] from by rw [Tryz.params6]] at hm
        simp only [List.mem_cons, List.not_mem_nil, or_false] at hm
        subst hm; exact (show Tryz.prog.wantsStandIn 30 = false by kernel_rfl)⟩)
    Gx
end Go.Proofs.YtenjikkmmibffaaGreatDoor.K
