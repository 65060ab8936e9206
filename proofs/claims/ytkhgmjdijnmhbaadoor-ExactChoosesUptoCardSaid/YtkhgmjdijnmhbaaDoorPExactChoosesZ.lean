
/- The statement ExactChoosesUptoCardSaid is proved: for every input of bulk at most 1048576 the law ExactChooses returns true and leaves its arguments as they were. Conditions: the bulk, and what the listed package-level variables hold at the start (the law does not read them), as the given row has it; the card ties the latter to the text of the program by the given tie. -/
import Derived.Test.YtkhgmjdijnmhbaaDoorZ14
import Derived.Test.YtkhgmjdijnmhbaaDoorBG2Z
import Derived.Test.YtkhgmjdijnmhbaaDoorPExactChoosesAZ
import Derived.Test.YtkhgmjdijnmhbaaDoorPExactChoosesBZ
import Derived.Test.YtkhgmjdijnmhbaaDoorCards
import Derived.SevenTiedAt
set_option linter.unusedVariables false
set_option linter.unusedSimpArgs false
namespace Go.Proofs.YtkhgmjdijnmhbaaDoor.K
open Go Go.AM Go.Proofs Go.RowKit

theorem exactChooses_args {xs} (h : W3 Tryd.prog 1048576 Tryd.f3.params.toList xs) : ACalls Tryd.prog 3 (xs.map .p) [] fun x H' => x = .p (.bool true) /\ H' = [] := by
  rw [show Tryd.f3.params.toList = [30, 31] from by rw [Tryd.params3]] at h
  obtain ⟨z1, r1, rfl, h1, h⟩ := Vc h
  obtain ⟨z2, r2, rfl, h2, h⟩ := Vc h
  obtain rfl := KY h
  obtain ⟨x1, rfl, w1⟩ := Zc8 h1
  obtain ⟨xs2, rfl, u2, _, v2⟩ := Zbc Tryd.underlying31 h2; obtain ⟨x2, rfl, w2⟩ := Xg (f := Xp) fun y hy => Zfd (v2 y hy)
  exact QB UN x1 w1 x2 false (by simpa using u2) (fun d hd => by have := (w2 d hd).2.1; unfold I64 at this; omega) (fun d hd => (by have := (w2 d hd).2.2.2; exact ⟨this.2.2.2.2.1, this.2.2.1⟩))

set_option maxRecDepth 100000 in
theorem exactChooses_lifted (os : Os) (started : os.Started) (H : Type) (enc : TypeId × Value -> H) (F : Stop.Interp) :
    ReturnsInHanded {} Tryd.checked os 3 .any (fun w args => ((Rows.OpenSpec.upto Rows.exactChoosesSpec).pre enc Tryd.prog Tryd.f3 Rows.exactChoosesUptoRow.domain false w args /\ laidMetH Tryd.prog Ql w) /\ sizedMet enc Tryd.prog Tryd.f3 (Rows.OpenSpec.upto Rows.exactChoosesSpec) false w args) (((Rows.OpenSpec.upto Rows.exactChoosesSpec).at F).post enc Tryd.prog Tryd.f3 false true false false) := by
  refine Q0 (C := Tryd.checked) (s := Rows.OpenSpec.upto Rows.exactChoosesSpec) (k := Rows.uptoSmall) (X := laidMetH Tryd.prog Ql) rfl own started (by kernel_rfl) Tryd.func3
    (QA (enc := enc) (C := Tryd.checked) (s := Rows.OpenSpec.upto Rows.exactChoosesSpec) (k := Rows.uptoSmall) (X := laidMetH Tryd.prog Ql) rfl false (Zh9 os) #[.agg #[.slice none 0 0, .slice none 0 0, .slice none 0 0, .slice none 0 0, .slice none 0 0, .slice none 0 0], .slice none 0 0] 8 rfl (by kernel_rfl) (by kernel_rfl) (by kernel_rfl)
      (x := ([.agg [.agg [.nil, .nil], .nil, .nil, .nil, .nil], .nil], [], [])) (by kernel_rfl) rfl (by kernel_rfl) (ZbU os _) (by kernel_rfl)) ?_
  intro W base args ds gs before hval hW _ hk _ hX
  refine U4 (P := Tryd.prog) (fn := Tryd.f3) (spec := Rows.exactChoosesSpec) (tb := 4) (B := 1048576) ?_ rfl ZfF (by kernel_rfl) (by kernel_rfl) Tryd.underlying4 (fun xs h => exactChooses_args h) hval hW (.inr (KM hk)) (Za6 hX)
  intro ds hds
  rw [show Tryd.f3.params.toList = [30, 31] from by rw [Tryd.params3]] at hds
  match ds, hds with
  | [d1, d2], _ => rfl

theorem exactChooses_holds : Rows.ExactChoosesUptoSaid :=
  OpenClaim.holds_of_cond 3 Tryd.f3 rfl rfl rfl rfl rfl rfl rfl ⟨rfl, rfl, rfl, rfl, rfl⟩ rfl rfl rfl rfl rfl (by kernel_rfl) Tryd.func3 (Zak globB exactChooses_h1 exactChooses_h2 exactChooses_h3 exactChooses_h4 (by kernel_rfl))
    (of_decide_eq_true (by kernel_rfl)) (by unfold Func.isWrapper; first | (rw [if_pos (by decide +kernel)]; kernel_rfl) | (rw [if_neg (by decide +kernel)]; exact ⟨rfl, rfl⟩))
    (fun os started H enc _ F => exactChooses_lifted os started H enc F)
theorem exactChooses_card : Rows.ExactChoosesUptoCardSaid :=
  Claim7.holds_tied_plain_at .later [] [.data, .data] true (true, "8d5be9367201bbb85ddf76a9b658a2f3ac00d60fd86442c11144f9e9d90e5188") false
    exactChooses_holds (fun _ h => by cases h) exactChooses_k1 (fun _ h => by cases h) exactChoosesUpto_row_tie rfl ⟨rfl, rfl⟩ exactChooses_k4 rfl
    (fun f fn hf hfn => by
      obtain rfl : f = 3 := Option.some.inj (exactChooses_k3.symm.trans hf) |>.symm
      obtain rfl : fn = Tryd.f3 := (Option.some.inj (Tryd.func3.symm.trans hfn)).symm
      exact ⟨exactChooses_k5, fun j t ht => by
        have hm : t ∈ Tryd.f3.params.toList := List.mem_of_getElem? (by simpa using ht)
        rw [show Tryd.f3.params.toList = [30, 31] from by rw [Tryd.params3]] at hm
        simp only [List.mem_cons, List.not_mem_nil, or_false] at hm
        rcases hm with rfl | rfl
        · exact (show Tryd.prog.wantsStandIn 30 = false by kernel_rfl)
        · exact (show Tryd.prog.wantsStandIn 31 = false by kernel_rfl)⟩)
    exactChooses_k2
end Go.Proofs.YtkhgmjdijnmhbaaDoor.K
