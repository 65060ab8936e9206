
/- The statement ReoptStaysUptoCardSaid is proved: for every input of bulk at most 1048576 the law ReoptStays returns true and leaves its arguments as they were. Conditions: the bulk, and what the listed package-level variables hold at the start (the law does not read them), as the given row has it; the card ties the latter to the text of the program by the given tie. -/
import Derived.Test.YtiigdaohjanidaaGreatDoorS25
import Derived.Test.YtiigdaohjanidaaGreatDoorBG2S
import Derived.Test.YtiigdaohjanidaaGreatDoorPReoptStaysAS
import Derived.Test.YtiigdaohjanidaaGreatDoorPReoptStaysBS
import Derived.Test.YtiigdaohjanidaaGreatDoorCards
import Derived.SevenTiedAt
set_option linter.unusedVariables false
set_option linter.unusedSimpArgs false
namespace Go.Proofs.YtiigdaohjanidaaGreatDoor.K
open Go Go.AM Go.Proofs Go.RowKit

theorem reoptStays_args {xs} (h : K0 Tryz.prog 1048576 Tryz.f8.params.toList xs) : ACalls Tryz.prog 8 (xs.map .p) [] fun x H' => x = .p (.bool true) /\ H' = [] := by
  rw [show Tryz.f8.params.toList = [63] from by rw [Tryz.params8]] at h
  obtain ⟨z1, r1, rfl, h1, h⟩ := I4 h
  obtain rfl := MZ h
  obtain ⟨x1, rfl, w1⟩ := kK h1
  exact Hu x1 w1

set_option maxRecDepth 100000 in
theorem reoptStays_lifted (os : Os) (started : os.Started) (H : Type) (enc : TypeId × Value -> H) (F : Stop.Interp) :
    ReturnsInHanded {} Tryz.checked os 8 .any (fun w args => ((Rows.OpenSpec.upto Rows.reoptStaysSpec).pre enc Tryz.prog Tryz.f8 Rows.reoptStaysUptoRow.domain false w args /\ laidMetH Tryz.prog A0 w) /\ sizedMet enc Tryz.prog Tryz.f8 (Rows.OpenSpec.upto Rows.reoptStaysSpec) false w args) (((Rows.OpenSpec.upto Rows.reoptStaysSpec).at F).post enc Tryz.prog Tryz.f8 false true false false) := by
  refine Lc (C := Tryz.checked) (s := Rows.OpenSpec.upto Rows.reoptStaysSpec) (k := Rows.uptoSmall) (X := laidMetH Tryz.prog A0) rfl own started (by kernel_rfl) Tryz.func8
    (H8 (enc := enc) (C := Tryz.checked) (s := Rows.OpenSpec.upto Rows.reoptStaysSpec) (k := Rows.uptoSmall) (X := laidMetH Tryz.prog A0) rfl false (qM os) #[.agg #[.slice none 0 0, .slice none 0 0, .slice none 0 0, .slice none 0 0, .slice none 0 0, .slice none 0 0, .slice none 0 0, .slice none 0 0, .int .i64 0, .slice none 0 0, .slice none 0 0, .slice none 0 0, .slice none 0 0, .slice none 0 0, .slice none 0 0]] 8 rfl (by kernel_rfl) (by kernel_rfl) (by kernel_rfl)
      (x := ([.agg [.agg [.agg [.nil, .nil], .nil, .nil, .nil, .nil], .agg [.nil, .nil], .lit (.int .i64 0), .agg [.agg [.nil, .nil], .nil, .nil, .nil, .nil]]], [], [])) (by kernel_rfl) rfl (by kernel_rfl) (Rt os _) (by kernel_rfl)) ?_
  intro W base args ds gs before hval hW _ hk _ hX
  refine Hv (P := Tryz.prog) (fn := Tryz.f8) (spec := Rows.reoptStaysSpec) (tb := 4) (B := 1048576) ?_ rfl lB (by kernel_rfl) (by kernel_rfl) Tryz.underlying4 (fun xs h => reoptStays_args h) hval hW (.inr (NO hk)) (Re hX)
  intro ds hds
  rw [show Tryz.f8.params.toList = [63] from by rw [Tryz.params8]] at hds
  match ds, hds with
  | [d1], _ => rfl

theorem reoptStays_holds : Rows.ReoptStaysUptoSaid :=
  OpenClaim.holds_of_cond 8 Tryz.f8 rfl rfl rfl rfl rfl rfl rfl ⟨rfl, rfl, rfl, rfl, rfl⟩ rfl rfl rfl rfl rfl (by kernel_rfl) Tryz.func8 (Rq globB reoptStays_h1 reoptStays_h2 reoptStays_h3 reoptStays_h4 (by kernel_rfl))
    (of_decide_eq_true (by kernel_rfl)) (by unfold Func.isWrapper; first | (rw [if_pos (by decide +kernel)]; kernel_rfl) | (rw [if_neg (by decide +kernel)]; exact ⟨rfl, rfl⟩))
    (fun os started H enc _ F => reoptStays_lifted os started H enc F)
theorem reoptStays_card : Rows.ReoptStaysUptoCardSaid :=
  Claim7.holds_tied_plain_at .later [] [.data, .data, .data] true (true, "fc6ae7564400a4ccc495708dec3f5f6f0c5f670c02cb8027deb9d52430da8ae4") false
    reoptStays_holds (fun _ h => by cases h) reoptStays_k1 (fun _ h => by cases h) reoptStaysUpto_row_tie rfl ⟨rfl, rfl⟩ reoptStays_k4 rfl
    (fun f fn hf hfn => by
      obtain rfl : f = 8 := Option.some.inj (reoptStays_k3.symm.trans hf) |>.symm
      obtain rfl : fn = Tryz.f8 := (Option.some.inj (Tryz.func8.symm.trans hfn)).symm
      exact ⟨reoptStays_k5, fun j t ht => by
        have hm : t ∈ Tryz.f8.params.toList := List.mem_of_getElem? (by simpa using ht)
        rw [show Tryz.f8.params.toList = [63] from by rw [Tryz.params8]] at hm
        simp only [List.mem_cons, List.not_mem_nil, or_false] at hm
        subst hm; exact (show Tryz.prog.wantsStandIn 63 = false by kernel_rfl)⟩)
    reoptStays_k2
end Go.Proofs.YtiigdaohjanidaaGreatDoor.K
