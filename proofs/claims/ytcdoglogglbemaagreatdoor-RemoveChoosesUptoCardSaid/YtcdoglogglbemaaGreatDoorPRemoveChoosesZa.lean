
/- The statement RemoveChoosesUptoCardSaid is proved: for every input of bulk at most 1048576 the law RemoveChooses returns true and leaves its arguments as they were. Conditions: the bulk, and what the listed package-level variables hold at the start (the law does not read them), as the given row has it; the card ties the latter to the text of the program by the given tie. -/
import Derived.Test.YtcdoglogglbemaaGreatDoorZa17
import Derived.Test.YtcdoglogglbemaaGreatDoorBG2Za
import Derived.Test.YtcdoglogglbemaaGreatDoorPRemoveChoosesAZa
import Derived.Test.YtcdoglogglbemaaGreatDoorPRemoveChoosesBZa
import Derived.Test.YtcdoglogglbemaaGreatDoorCards
import Derived.SevenTiedAt
set_option linter.unusedVariables false
set_option linter.unusedSimpArgs false
namespace Go.Proofs.YtcdoglogglbemaaGreatDoor.K
open Go Go.AM Go.Proofs Go.RowKit

theorem removeChooses_args {xs} (h : Uu Tryz.prog 1048576 Tryz.f5.params.toList xs) : ACalls Tryz.prog 5 (xs.map .p) [] fun x H' => x = .p (.bool true) /\ H' = [] := by
  rw [show Tryz.f5.params.toList = [30, 34, 49] from by rw [Tryz.params5]] at h
  obtain ⟨z1, r1, rfl, h1, h⟩ := XX h
  obtain ⟨z2, r2, rfl, h2, h⟩ := XX h
  obtain ⟨z3, r3, rfl, h3, h⟩ := XX h
  obtain rfl := Jo h
  obtain ⟨x1, rfl, w1⟩ := Zcn h1
  obtain ⟨x2, rfl, w2⟩ := Ze8 h2
  obtain ⟨x3, rfl, w3⟩ := ZkS h3
  exact QY x1 w1 x2 w2 x3 w3

set_option maxRecDepth 100000 in
theorem removeChooses_lifted (os : Os) (started : os.Started) (H : Type) (enc : TypeId × Value -> H) (F : Stop.Interp) :
    ReturnsInHanded {} Tryz.checked os 5 .any (fun w args => ((Rows.OpenSpec.upto Rows.removeChoosesSpec).pre enc Tryz.prog Tryz.f5 Rows.removeChoosesUptoRow.domain false w args /\ laidMetH Tryz.prog UF w) /\ sizedMet enc Tryz.prog Tryz.f5 (Rows.OpenSpec.upto Rows.removeChoosesSpec) false w args) (((Rows.OpenSpec.upto Rows.removeChoosesSpec).at F).post enc Tryz.prog Tryz.f5 false true false false) := by
  refine U7 (C := Tryz.checked) (s := Rows.OpenSpec.upto Rows.removeChoosesSpec) (k := Rows.uptoSmall) (X := laidMetH Tryz.prog UF) rfl own started (by kernel_rfl) Tryz.func5
    (Ux (enc := enc) (C := Tryz.checked) (s := Rows.OpenSpec.upto Rows.removeChoosesSpec) (k := Rows.uptoSmall) (X := laidMetH Tryz.prog UF) rfl false (Zmp os) #[.agg #[.slice none 0 0, .slice none 0 0, .slice none 0 0, .slice none 0 0, .slice none 0 0, .slice none 0 0], .agg #[.slice none 0 0, .slice none 0 0], .agg #[.int .i64 0, .int .i64 0, .int .i64 0]] 8 rfl (by kernel_rfl) (by kernel_rfl) (by kernel_rfl)
      (x := ([.agg [.agg [.nil, .nil], .nil, .nil, .nil, .nil], .agg [.nil, .nil], .agg [.lit (.int .i64 0), .lit (.int .i64 0), .lit (.int .i64 0)]], [], [])) (by kernel_rfl) rfl (by kernel_rfl) (Kq os _) (by kernel_rfl)) ?_
  intro W base args ds gs before hval hW _ hk _ hX
  refine Uw (P := Tryz.prog) (fn := Tryz.f5) (spec := Rows.removeChoosesSpec) (tb := 4) (B := 1048576) ?_ rfl ZeU (by kernel_rfl) (by kernel_rfl) Tryz.underlying4 (fun xs h => removeChooses_args h) hval hW (.inr (Jz hk)) (ZaO hX)
  intro ds hds
  rw [show Tryz.f5.params.toList = [30, 34, 49] from by rw [Tryz.params5]] at hds
  match ds, hds with
  | [d1, d2, d3], _ => rfl

theorem removeChooses_holds : Rows.RemoveChoosesUptoSaid :=
  OpenClaim.holds_of_cond 5 Tryz.f5 rfl rfl rfl rfl rfl rfl rfl ⟨rfl, rfl, rfl, rfl, rfl⟩ rfl rfl rfl rfl rfl (by kernel_rfl) Tryz.func5 (KS globB removeChooses_h1 removeChooses_h2 removeChooses_h3 removeChooses_h4 (by kernel_rfl))
    (of_decide_eq_true (by kernel_rfl)) (by unfold Func.isWrapper; first | (rw [if_pos (by decide +kernel)]; kernel_rfl) | (rw [if_neg (by decide +kernel)]; exact ⟨rfl, rfl⟩))
    (fun os started H enc _ F => removeChooses_lifted os started H enc F)
theorem removeChooses_card : Rows.RemoveChoosesUptoCardSaid :=
  Claim7.holds_tied_plain_at .later [] [.data, .data, .data] true (true, "24d26ef79c81d03697112dd31db44e49fbcbcace4f1341fd48d75ffd43531fcd") false
    removeChooses_holds (fun _ h => by cases h) removeChooses_k1 (fun _ h => by cases h) removeChoosesUpto_row_tie rfl ⟨rfl, rfl⟩ removeChooses_k4 rfl
    (fun f fn hf hfn => by
      obtain rfl : f = 5 := Option.some.inj (removeChooses_k3.symm.trans hf) |>.symm
      obtain rfl : fn = Tryz.f5 := (Option.some.inj (Tryz.func5.symm.trans hfn)).symm
      exact ⟨removeChooses_k5, fun j t ht => by
        have hm : t ∈ Tryz.f5.params.toList := List.mem_of_getElem? (by simpa using ht)
        rw [show Tryz.f5.params.toList = [30, 34, 49] from by rw [Tryz.params5]] at hm
        simp only [List.mem_cons, List.not_mem_nil, or_false] at hm
        rcases hm with rfl | rfl | rfl
        · exact (show Tryz.prog.wantsStandIn 30 = false by kernel_rfl)
        · exact (show Tryz.prog.wantsStandIn 34 = false by kernel_rfl)
        · exact (show Tryz.prog.wantsStandIn 49 = false by kernel_rfl)⟩)
    removeChooses_k2
end Go.Proofs.YtcdoglogglbemaaGreatDoor.K
