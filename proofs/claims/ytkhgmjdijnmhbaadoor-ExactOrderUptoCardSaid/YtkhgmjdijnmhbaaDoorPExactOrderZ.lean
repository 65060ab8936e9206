
/- The statement ExactOrderUptoCardSaid is proved: for every input of bulk at most 1048576 the law ExactOrder returns true and leaves its arguments as they were. Conditions: the bulk, and what the listed package-level variables hold at the start (the law does not read them), as the given row has it; the card ties the latter to the text of the program by the given tie. -/
import Derived.Test.YtkhgmjdijnmhbaaDoorZ14
import Derived.Test.YtkhgmjdijnmhbaaDoorBG2Z
import Derived.Test.YtkhgmjdijnmhbaaDoorPExactOrderAZ
import Derived.Test.YtkhgmjdijnmhbaaDoorPExactOrderBZ
import Derived.Test.YtkhgmjdijnmhbaaDoorCards
import Derived.SevenTiedAt
set_option linter.unusedVariables false
set_option linter.unusedSimpArgs false
namespace Go.Proofs.YtkhgmjdijnmhbaaDoor.K
open Go Go.AM Go.Proofs Go.RowKit

theorem exactOrder_args {xs} (h : W2 Tryd.prog 1048576 Tryd.f4.params.toList xs) : ACalls Tryd.prog 4 (xs.map .p) [] fun x H' => x = .p (.bool true) /\ H' = [] := by
  rw [show Tryd.f4.params.toList = [30, 31, 51] from by rw [Tryd.params4]] at h
  obtain ⟨z1, r1, rfl, h1, h⟩ := YA h
  obtain ⟨z2, r2, rfl, h2, h⟩ := YA h
  obtain ⟨z3, r3, rfl, h3, h⟩ := YA h
  obtain rfl := JH h
  obtain ⟨x1, rfl, w1⟩ := ZaF h1
  obtain ⟨xs2, rfl, u2, _, v2⟩ := Kv Tryd.underlying31 h2; obtain ⟨x2, rfl, w2⟩ := Xg (f := Xq) fun y hy => KX (v2 y hy)
  obtain ⟨x3, rfl, w3⟩ := KX h3
  exact Jz V2 x1 w1 x2 false x3 (by simpa using u2) (fun d hd => by have := (w2 d hd).2.1; unfold I64 at this; omega) (by have := w3.2.1; unfold I64 at this; omega)

set_option maxRecDepth 100000 in
theorem exactOrder_lifted (os : Os) (started : os.Started) (H : Type) (enc : TypeId × Value -> H) (F : Stop.Interp) :
    ReturnsInHanded {} Tryd.checked os 4 .any (fun w args => ((Rows.OpenSpec.upto Rows.exactOrderSpec).pre enc Tryd.prog Tryd.f4 Rows.exactOrderUptoRow.domain false w args /\ laidMetH Tryd.prog Uw w) /\ sizedMet enc Tryd.prog Tryd.f4 (Rows.OpenSpec.upto Rows.exactOrderSpec) false w args) (((Rows.OpenSpec.upto Rows.exactOrderSpec).at F).post enc Tryd.prog Tryd.f4 false true false false) := by
  refine Qj (C := Tryd.checked) (s := Rows.OpenSpec.upto Rows.exactOrderSpec) (k := Rows.uptoSmall) (X := laidMetH Tryd.prog Uw) rfl own started (by kernel_rfl) Tryd.func4
    (UB (enc := enc) (C := Tryd.checked) (s := Rows.OpenSpec.upto Rows.exactOrderSpec) (k := Rows.uptoSmall) (X := laidMetH Tryd.prog Uw) rfl false (Zeu os) #[.agg #[.slice none 0 0, .slice none 0 0, .slice none 0 0, .slice none 0 0, .slice none 0 0, .slice none 0 0], .slice none 0 0, .agg #[.int .i64 0, .int .i64 0, .int .i64 0, .int .i64 0, .int .i64 0, .slice none 0 0, .slice none 0 0]] 8 rfl (by kernel_rfl) (by kernel_rfl) (by kernel_rfl)
      (x := ([.agg [.agg [.nil, .nil], .nil, .nil, .nil, .nil], .nil, .agg [.lit (.int .i64 0), .lit (.int .i64 0), .lit (.int .i64 0), .agg [.lit (.int .i64 0), .lit (.int .i64 0), .nil, .nil]]], [], [])) (by kernel_rfl) rfl (by kernel_rfl) (KG os _) (by kernel_rfl)) ?_
  intro W base args ds gs before hval hW _ hk _ hX
  refine Ue (P := Tryd.prog) (fn := Tryd.f4) (spec := Rows.exactOrderSpec) (tb := 4) (B := 1048576) ?_ rfl Zcw (by kernel_rfl) (by kernel_rfl) Tryd.underlying4 (fun xs h => exactOrder_args h) hval hW (.inr (Jc hk)) (JO hX)
  intro ds hds
  rw [show Tryd.f4.params.toList = [30, 31, 51] from by rw [Tryd.params4]] at hds
  match ds, hds with
  | [d1, d2, d3], _ => rfl

theorem exactOrder_holds : Rows.ExactOrderUptoSaid :=
  OpenClaim.holds_of_cond 4 Tryd.f4 rfl rfl rfl rfl rfl rfl rfl ⟨rfl, rfl, rfl, rfl, rfl⟩ rfl rfl rfl rfl rfl (by kernel_rfl) Tryd.func4 (J9 globB exactOrder_h1 exactOrder_h2 exactOrder_h3 exactOrder_h4 (by kernel_rfl))
    (of_decide_eq_true (by kernel_rfl)) (by unfold Func.isWrapper; first | (rw [if_pos (by decide +kernel)]; kernel_rfl) | (rw [if_neg (by decide +kernel)]; exact ⟨rfl, rfl⟩))
    (fun os started H enc _ F => exactOrder_lifted os started H enc F)
theorem exactOrder_card : Rows.ExactOrderUptoCardSaid :=
  Claim7.holds_tied_plain_at .later [] [.data, .data] true (true, "8d5be9367201bbb85ddf76a9b658a2f3ac00d60fd86442c11144f9e9d90e5188") false
    exactOrder_holds (fun _ h => by cases h) exactOrder_k1 (fun _ h => by cases h) exactOrderUpto_row_tie rfl ⟨rfl, rfl⟩ exactOrder_k4 rfl
    (fun f fn hf hfn => by
      obtain rfl : f = 4 := Option.some.inj (exactOrder_k3.symm.trans hf) |>.symm
      obtain rfl : fn = Tryd.f4 := (Option.some.inj (Tryd.func4.symm.trans hfn)).symm
      exact ⟨exactOrder_k5, fun j t ht => by
        have hm : t ∈ Tryd.f4.params.toList := List.mem_of_getElem? (by simpa using ht)
        rw [show Tryd.f4.params.toList = [30, 31, 51] from by rw [Tryd.params4]] at hm
        simp only [List.mem_cons, List.not_mem_nil, or_false] at hm
        rcases hm with rfl | rfl | rfl
        · exact (show Tryd.prog.wantsStandIn 30 = false by kernel_rfl)
        · exact (show Tryd.prog.wantsStandIn 31 = false by kernel_rfl)
        · exact (show Tryd.prog.wantsStandIn 51 = false by kernel_rfl)⟩)
    exactOrder_k2
end Go.Proofs.YtkhgmjdijnmhbaaDoor.K
