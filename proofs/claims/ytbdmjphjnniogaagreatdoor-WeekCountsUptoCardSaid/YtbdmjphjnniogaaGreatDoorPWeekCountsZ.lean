
/- The statement WeekCountsUptoCardSaid is proved: for every input of bulk at most 1048576 the law WeekCounts returns true and leaves its arguments as they were. Conditions: the bulk, and what the listed package-level variables hold at the start (the law does not read them), as the given row has it; the card ties the latter to the text of the program by the given tie. -/
import Derived.Test.YtbdmjphjnniogaaGreatDoorZ21
import Derived.Test.YtbdmjphjnniogaaGreatDoorBG2Z
import Derived.Test.YtbdmjphjnniogaaGreatDoorPWeekCountsAZ
import Derived.Test.YtbdmjphjnniogaaGreatDoorPWeekCountsBZ
import Derived.Test.YtbdmjphjnniogaaGreatDoorCards
import Derived.SevenTiedAt
set_option linter.unusedVariables false
set_option linter.unusedSimpArgs false
namespace Go.Proofs.YtbdmjphjnniogaaGreatDoor.K
open Go Go.AM Go.Proofs Go.RowKit

theorem weekCounts_args {xs} (h : UZ Tryz.prog 1048576 Tryz.f4.params.toList xs) : ACalls Tryz.prog 4 (xs.map .p) [] fun x H' => x = .p (.bool true) /\ H' = [] := by
  rw [show Tryz.f4.params.toList = [44, 45] from by rw [Tryz.params4]] at h
  obtain ⟨z1, r1, rfl, h1, h⟩ := U1 h
  obtain ⟨z2, r2, rfl, h2, h⟩ := U1 h
  obtain rfl := Zc5 h
  obtain ⟨xs1, rfl, u1, _, v1⟩ := Zab Tryz.underlying44 h1; obtain ⟨x1, rfl, w1⟩ := Xv (f := ZC) fun y hy => ZgT (v1 y hy)
  obtain ⟨xs2, rfl, u2, _, v2⟩ := Zab Tryz.underlying45 h2; obtain ⟨x2, rfl, w2⟩ := Xv (f := Qw) fun y hy => ZjX (v2 y hy)
  exact Za1 x1 x2 false false (by simpa using u1) (by simpa using u2) w1 w2

set_option maxRecDepth 100000 in
theorem weekCounts_lifted (os : Os) (started : os.Started) (H : Type) (enc : TypeId × Value -> H) (F : Stop.Interp) :
    ReturnsInHanded {} Tryz.checked os 4 .any (fun w args => ((Rows.OpenSpec.upto Rows.weekCountsSpec).pre enc Tryz.prog Tryz.f4 Rows.weekCountsUptoRow.domain false w args /\ laidMetH Tryz.prog Ji w) /\ sizedMet enc Tryz.prog Tryz.f4 (Rows.OpenSpec.upto Rows.weekCountsSpec) false w args) (((Rows.OpenSpec.upto Rows.weekCountsSpec).at F).post enc Tryz.prog Tryz.f4 false true false false) := by
  refine ZaG (C := Tryz.checked) (s := Rows.OpenSpec.upto Rows.weekCountsSpec) (k := Rows.uptoSmall) (X := laidMetH Tryz.prog Ji) rfl own started (by kernel_rfl) Tryz.func4
    (K8 (enc := enc) (C := Tryz.checked) (s := Rows.OpenSpec.upto Rows.weekCountsSpec) (k := Rows.uptoSmall) (X := laidMetH Tryz.prog Ji) rfl false (ZoS os) #[.slice none 0 0, .slice none 0 0] 8 rfl (by kernel_rfl) (by kernel_rfl) (by kernel_rfl)
      (x := ([.nil, .nil], [], [])) (by kernel_rfl) rfl (by kernel_rfl) (Zf9 os _) (by kernel_rfl)) ?_
  intro W base args ds gs before hval hW _ hk _ hX
  refine Zad (P := Tryz.prog) (fn := Tryz.f4) (spec := Rows.weekCountsSpec) (tb := 4) (B := 1048576) ?_ rfl ZjS (by kernel_rfl) (by kernel_rfl) Tryz.underlying4 (fun xs h => weekCounts_args h) hval hW (.inr (ZcA hk)) (ZdN hX)
  intro ds hds
  rw [show Tryz.f4.params.toList = [44, 45] from by rw [Tryz.params4]] at hds
  match ds, hds with
  | [d1, d2], _ => rfl

theorem weekCounts_holds : Rows.WeekCountsUptoSaid :=
  OpenClaim.holds_of_cond 4 Tryz.f4 rfl rfl rfl rfl rfl rfl rfl ⟨rfl, rfl, rfl, rfl, rfl⟩ rfl rfl rfl rfl rfl (by kernel_rfl) Tryz.func4 (Zfp globB weekCounts_h1 weekCounts_h2 weekCounts_h3 weekCounts_h4 (by kernel_rfl))
    (of_decide_eq_true (by kernel_rfl)) (by unfold Func.isWrapper; first | (rw [if_pos (by decide +kernel)]; kernel_rfl) | (rw [if_neg (by decide +kernel)]; exact ⟨rfl, rfl⟩))
    (fun os started H enc _ F => weekCounts_lifted os started H enc F)
theorem weekCounts_card : Rows.WeekCountsUptoCardSaid :=
  Claim7.holds_tied_plain_at .later [] [.data, .data, .data] true (true, "8b887b66182eced1686f7c5cae7e2a46618d917f5dfc180ef4f17ff94ef9b8d2") false
    weekCounts_holds (fun _ h => by cases h) weekCounts_k1 (fun _ h => by cases h) weekCountsUpto_row_tie rfl ⟨rfl, rfl⟩ weekCounts_k4 rfl
    (fun f fn hf hfn => by
      obtain rfl : f = 4 := Option.some.inj (weekCounts_k3.symm.trans hf) |>.symm
      obtain rfl : fn = Tryz.f4 := (Option.some.inj (Tryz.func4.symm.trans hfn)).symm
      exact ⟨weekCounts_k5, fun j t ht => by
        have hm : t ∈ Tryz.f4.params.toList := List.mem_of_getElem? (by simpa using ht)
        rw [show Tryz.f4.params.toList = [44, 45] from by rw [Tryz.params4]] at hm
        simp only [List.mem_cons, List.not_mem_nil, or_false] at hm
        rcases hm with rfl | rfl
        · exact (show Tryz.prog.wantsStandIn 44 = false by kernel_rfl)
        · exact (show Tryz.prog.wantsStandIn 45 = false by kernel_rfl)⟩)
    weekCounts_k2
end Go.Proofs.YtbdmjphjnniogaaGreatDoor.K
