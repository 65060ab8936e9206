
/- The statement WeekCarriesUptoCardSaid is proved: for every input of bulk at most 1048576 the law WeekCarries returns true and leaves its arguments as they were. Conditions: the bulk, and what the listed package-level variables hold at the start (the law does not read them), as the given row has it; the card ties the latter to the text of the program by the given tie. -/
import Derived.Test.YtgknhiknjimdpaaGreatDoorZ21
import Derived.Test.YtgknhiknjimdpaaGreatDoorBG2Z
import Derived.Test.YtgknhiknjimdpaaGreatDoorPWeekCarriesAZ
import Derived.Test.YtgknhiknjimdpaaGreatDoorPWeekCarriesBZ
import Derived.Test.YtgknhiknjimdpaaGreatDoorCards
import Derived.SevenTiedAt
set_option linter.unusedVariables false
set_option linter.unusedSimpArgs false
namespace Go.Proofs.YtgknhiknjimdpaaGreatDoor.K
open Go Go.AM Go.Proofs Go.RowKit

theorem weekCarries_args {xs} (h : WT Tryz.prog 1048576 Tryz.f3.params.toList xs) : ACalls Tryz.prog 3 (xs.map .p) [] fun x H' => x = .p (.bool true) /\ H' = [] := by
  rw [show Tryz.f3.params.toList = [30, 30, 34] from by rw [Tryz.params3]] at h
  obtain ⟨z1, r1, rfl, h1, h⟩ := Yv h
  obtain ⟨z2, r2, rfl, h2, h⟩ := Yv h
  obtain ⟨z3, r3, rfl, h3, h⟩ := Yv h
  obtain rfl := JE h
  obtain ⟨x1, rfl, w1⟩ := Q6 h1
  obtain ⟨x2, rfl, w2⟩ := Q6 h2
  obtain ⟨x3, rfl, w3⟩ := Zef h3
  exact U1 x1 x2 x3 w1 w2 w3

set_option maxRecDepth 100000 in
theorem weekCarries_lifted (os : Os) (started : os.Started) (H : Type) (enc : TypeId × Value -> H) (F : Stop.Interp) :
    ReturnsInHanded {} Tryz.checked os 3 .any (fun w args => ((Rows.OpenSpec.upto Rows.weekCarriesSpec).pre enc Tryz.prog Tryz.f3 Rows.weekCarriesUptoRow.domain false w args /\ laidMetH Tryz.prog VO w) /\ sizedMet enc Tryz.prog Tryz.f3 (Rows.OpenSpec.upto Rows.weekCarriesSpec) false w args) (((Rows.OpenSpec.upto Rows.weekCarriesSpec).at F).post enc Tryz.prog Tryz.f3 false true false false) := by
  refine Qj (C := Tryz.checked) (s := Rows.OpenSpec.upto Rows.weekCarriesSpec) (k := Rows.uptoSmall) (X := laidMetH Tryz.prog VO) rfl own started (by kernel_rfl) Tryz.func3
    (U8 (enc := enc) (C := Tryz.checked) (s := Rows.OpenSpec.upto Rows.weekCarriesSpec) (k := Rows.uptoSmall) (X := laidMetH Tryz.prog VO) rfl false (Zh6 os) #[.agg #[.slice none 0 0, .slice none 0 0, .slice none 0 0, .slice none 0 0, .slice none 0 0, .slice none 0 0], .agg #[.slice none 0 0, .slice none 0 0, .slice none 0 0, .slice none 0 0, .slice none 0 0, .slice none 0 0], .agg #[.slice none 0 0, .slice none 0 0]] 8 rfl (by kernel_rfl) (by kernel_rfl) (by kernel_rfl)
      (x := ([.agg [.agg [.nil, .nil], .nil, .nil, .nil, .nil], .agg [.agg [.nil, .nil], .nil, .nil, .nil, .nil], .agg [.nil, .nil]], [], [])) (by kernel_rfl) rfl (by kernel_rfl) (KX os _) (by kernel_rfl)) ?_
  intro W base args ds gs before hval hW _ hk _ hX
  refine UV (P := Tryz.prog) (fn := Tryz.f3) (spec := Rows.weekCarriesSpec) (tb := 4) (B := 1048576) ?_ rfl ZeQ (by kernel_rfl) (by kernel_rfl) Tryz.underlying4 (fun xs h => weekCarries_args h) hval hW (.inr (JX hk)) (ZaP hX)
  intro ds hds
  rw [show Tryz.f3.params.toList = [30, 30, 34] from by rw [Tryz.params3]] at hds
  match ds, hds with
  | [d1, d2, d3], _ => rfl

theorem weekCarries_holds : Rows.WeekCarriesUptoSaid :=
  OpenClaim.holds_of_cond 3 Tryz.f3 rfl rfl rfl rfl rfl rfl rfl ⟨rfl, rfl, rfl, rfl, rfl⟩ rfl rfl rfl rfl rfl (by kernel_rfl) Tryz.func3 (ZaE globB weekCarries_h1 weekCarries_h2 weekCarries_h3 weekCarries_h4 (by kernel_rfl))
    (of_decide_eq_true (by kernel_rfl)) (by unfold Func.isWrapper; first | (rw [if_pos (by decide +kernel)]; kernel_rfl) | (rw [if_neg (by decide +kernel)]; exact ⟨rfl, rfl⟩))
    (fun os started H enc _ F => weekCarries_lifted os started H enc F)
theorem weekCarries_card : Rows.WeekCarriesUptoCardSaid :=
  Claim7.holds_tied_plain_at .later [] [.data, .data, .data] true (true, "3898d2af7178e41d210d0ade5173cbbce815fdbadb69ba2be7effd11b6b2e3f4") false
    weekCarries_holds (fun _ h => by cases h) weekCarries_k1 (fun _ h => by cases h) weekCarriesUpto_row_tie rfl ⟨rfl, rfl⟩ weekCarries_k4 rfl
    (fun f fn hf hfn => by
      obtain rfl : f = 3 := Option.some.inj (weekCarries_k3.symm.trans hf) |>.symm
      obtain rfl : fn = Tryz.f3 := (Option.some.inj (Tryz.func3.symm.trans hfn)).symm
      exact ⟨weekCarries_k5, fun j t ht => by
        have hm : t ∈ Tryz.f3.params.toList := List.mem_of_getElem? (by simpa using ht)
        rw [show Tryz.f3.params.toList = [30, 30, 34] from by rw [Tryz.params3]] at hm
        simp only [List.mem_cons, List.not_mem_nil, or_false] at hm
        rcases hm with rfl | rfl | rfl
        · exact (show Tryz.prog.wantsStandIn 30 = false by kernel_rfl)
        · exact (show Tryz.prog.wantsStandIn 30 = false by kernel_rfl)
        · exact (show Tryz.prog.wantsStandIn 34 = false by kernel_rfl)⟩)
    weekCarries_k2
end Go.Proofs.YtgknhiknjimdpaaGreatDoor.K
