
/- The statement RemoveKeepsUptoCardSaid is proved: for every input of bulk at most 1048576 the law RemoveKeeps returns true and leaves its arguments as they were. Conditions: the bulk, and what the listed package-level variables hold at the start (the law does not read them), as the given row has it; the card ties the latter to the text of the program by the given tie. -/
import Derived.Test.YtcdoglogglbemaaGreatDoorZb17
import Derived.Test.YtcdoglogglbemaaGreatDoorBG2Zb
import Derived.Test.YtcdoglogglbemaaGreatDoorPRemoveKeepsAZb
import Derived.Test.YtcdoglogglbemaaGreatDoorPRemoveKeepsBZb
import Derived.Test.YtcdoglogglbemaaGreatDoorCards
import Derived.SevenTiedAt
set_option linter.unusedVariables false
set_option linter.unusedSimpArgs false
namespace Go.Proofs.YtcdoglogglbemaaGreatDoor.K
open Go Go.AM Go.Proofs Go.RowKit

theorem removeKeeps_args {xs} (h : Uk Tryz.prog 1048576 Tryz.f6.params.toList xs) : ACalls Tryz.prog 6 (xs.map .p) [] fun x H' => x = .p (.bool true) /\ H' = [] := by
  rw [show Tryz.f6.params.toList = [30, 34, 3] from by rw [Tryz.params6]] at h
  obtain ⟨z1, r1, rfl, h1, h⟩ := XU h
  obtain ⟨z2, r2, rfl, h2, h⟩ := XU h
  obtain ⟨z3, r3, rfl, h3, h⟩ := XU h
  obtain rfl := Jc h
  obtain ⟨x1, rfl, w1⟩ := ZbM h1
  obtain ⟨x2, rfl, w2⟩ := Zfs h2
  obtain ⟨x3, rfl, w3⟩ := ZeE Tryz.underlying3 h3; have w3 := ZJ w3
  exact KK x1 w1 x2 w2 x3 w3

set_option maxRecDepth 100000 in
theorem removeKeeps_lifted (os : Os) (started : os.Started) (H : Type) (enc : TypeId × Value -> H) (F : Stop.Interp) :
    ReturnsInHanded {} Tryz.checked os 6 .any (fun w args => ((Rows.OpenSpec.upto Rows.removeKeepsSpec).pre enc Tryz.prog Tryz.f6 Rows.removeKeepsUptoRow.domain false w args /\ laidMetH Tryz.prog UA w) /\ sizedMet enc Tryz.prog Tryz.f6 (Rows.OpenSpec.upto Rows.removeKeepsSpec) false w args) (((Rows.OpenSpec.upto Rows.removeKeepsSpec).at F).post enc Tryz.prog Tryz.f6 false true false false) := by
  refine Qr (C := Tryz.checked) (s := Rows.OpenSpec.upto Rows.removeKeepsSpec) (k := Rows.uptoSmall) (X := laidMetH Tryz.prog UA) rfl own started (by kernel_rfl) Tryz.func6
    (Ui (enc := enc) (C := Tryz.checked) (s := Rows.OpenSpec.upto Rows.removeKeepsSpec) (k := Rows.uptoSmall) (X := laidMetH Tryz.prog UA) rfl false (Zmp os) #[.agg #[.slice none 0 0, .slice none 0 0, .slice none 0 0, .slice none 0 0, .slice none 0 0, .slice none 0 0], .agg #[.slice none 0 0, .slice none 0 0], .int .i64 0] 8 rfl (by kernel_rfl) (by kernel_rfl) (by kernel_rfl)
      (x := ([.agg [.agg [.nil, .nil], .nil, .nil, .nil, .nil], .agg [.nil, .nil], .lit (.int .i64 0)], [], [])) (by kernel_rfl) rfl (by kernel_rfl) (K1 os _) (by kernel_rfl)) ?_
  intro W base args ds gs before hval hW _ hk _ hX
  refine Uq (P := Tryz.prog) (fn := Tryz.f6) (spec := Rows.removeKeepsSpec) (tb := 4) (B := 1048576) ?_ rfl Zfc (by kernel_rfl) (by kernel_rfl) Tryz.underlying4 (fun xs h => removeKeeps_args h) hval hW (.inr (QS hk)) (Zap hX)
  intro ds hds
  rw [show Tryz.f6.params.toList = [30, 34, 3] from by rw [Tryz.params6]] at hds
  match ds, hds with
  | [d1, d2, d3], _ => rfl

theorem removeKeeps_holds : Rows.RemoveKeepsUptoSaid :=
  OpenClaim.holds_of_cond 6 Tryz.f6 rfl rfl rfl rfl rfl rfl rfl ⟨rfl, rfl, rfl, rfl, rfl⟩ rfl rfl rfl rfl rfl (by kernel_rfl) Tryz.func6 (Ke globB removeKeeps_h1 removeKeeps_h2 removeKeeps_h3 removeKeeps_h4 (by kernel_rfl))
    (of_decide_eq_true (by kernel_rfl)) (by unfold Func.isWrapper; first | (rw [if_pos (by decide +kernel)]; kernel_rfl) | (rw [if_neg (by decide +kernel)]; exact ⟨rfl, rfl⟩))
    (fun os started H enc _ F => removeKeeps_lifted os started H enc F)
theorem removeKeeps_card : Rows.RemoveKeepsUptoCardSaid :=
  Claim7.holds_tied_plain_at .later [] [.data, .data, .data] true (true, "24d26ef79c81d03697112dd31db44e49fbcbcace4f1341fd48d75ffd43531fcd") false
    removeKeeps_holds (fun _ h => by cases h) removeKeeps_k1 (fun _ h => by cases h) removeKeepsUpto_row_tie rfl ⟨rfl, rfl⟩ removeKeeps_k4 rfl
    (fun f fn hf hfn => by
      obtain rfl : f = 6 := Option.some.inj (removeKeeps_k3.symm.trans hf) |>.symm
      obtain rfl : fn = Tryz.f6 := (Option.some.inj (Tryz.func6.symm.trans hfn)).symm
      exact ⟨removeKeeps_k5, fun j t ht => by
        have hm : t ∈ Tryz.f6.params.toList := List.mem_of_getElem? (by simpa using ht)
        rw [show Tryz.f6.params.toList = [30, 34, 3] from by rw [Tryz.params6]] at hm
        simp only [List.mem_cons, List.not_mem_nil, or_false] at hm
        rcases hm with rfl | rfl | rfl
        · exact (show Tryz.prog.wantsStandIn 30 = false by kernel_rfl)
        · exact (show Tryz.prog.wantsStandIn 34 = false by kernel_rfl)
        · exact (show Tryz.prog.wantsStandIn 3 = false by kernel_rfl)⟩)
    removeKeeps_k2
end Go.Proofs.YtcdoglogglbemaaGreatDoor.K
