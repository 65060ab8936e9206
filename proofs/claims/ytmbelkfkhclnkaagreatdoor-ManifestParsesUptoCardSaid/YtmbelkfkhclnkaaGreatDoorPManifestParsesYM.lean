
/- The statement ManifestParsesUptoCardSaid is proved: for every input of bulk at most 1048576 the law ManifestParses returns true and leaves its arguments as they were. Conditions: the bulk, and what the listed package-level variables hold at the start (the law does not read them), as the given row has it; the card ties the latter to the text of the program by the given tie. -/
import Derived.Test.YtmbelkfkhclnkaaGreatDoorYM18
import Derived.Test.YtmbelkfkhclnkaaGreatDoorCards
import Derived.SevenTiedAt
set_option linter.unusedVariables false
set_option linter.unusedSimpArgs false
namespace Go.Proofs.YtmbelkfkhclnkaaGreatDoor.K
open Go Go.AM Go.Proofs Go.RowKit

theorem manifestParses_args {xs} (h : Vn Tryz.prog 1048576 Tryz.f4.params.toList xs) : ACalls Tryz.prog 4 (xs.map .p) [] fun x H' => x = .p (.bool true) /\ H' = [] := by
  rw [show Tryz.f4.params.toList = [9] from by rw [Tryz.params4]] at h
  obtain ⟨z1, r1, rfl, h1, h⟩ := Aq h
  obtain rfl := B1 h
  obtain ⟨x1, rfl, w1, _⟩ := IZ Tryz.underlying9 h1
  exact Kw x1 w1

set_option maxRecDepth 100000 in
theorem manifestParses_lifted (os : Os) (started : os.Started) (H : Type) (enc : TypeId × Value -> H) (F : Stop.Interp) :
    ReturnsInHanded {} Tryz.checked os 4 .any (fun w args => ((Rows.OpenSpec.upto Rows.manifestParsesSpec).pre enc Tryz.prog Tryz.f4 Rows.manifestParsesUptoRow.domain false w args /\ laidMetH Tryz.prog Vi w) /\ sizedMet enc Tryz.prog Tryz.f4 (Rows.OpenSpec.upto Rows.manifestParsesSpec) false w args) (((Rows.OpenSpec.upto Rows.manifestParsesSpec).at F).post enc Tryz.prog Tryz.f4 false true false false) := by
  refine Aw (C := Tryz.checked) (s := Rows.OpenSpec.upto Rows.manifestParsesSpec) (k := Rows.uptoSmall) (X := laidMetH Tryz.prog Vi) rfl own started (by kernel_rfl) Tryz.func4
    (KR (enc := enc) (C := Tryz.checked) (s := Rows.OpenSpec.upto Rows.manifestParsesSpec) (k := Rows.uptoSmall) (X := laidMetH Tryz.prog Vi) rfl false (MM os) #[.string ⟨#[]⟩] 8 rfl (by kernel_rfl) (by kernel_rfl) (by kernel_rfl)
      (x := ([.lit (.string [])], [], [])) (by kernel_rfl) rfl (by kernel_rfl) (EE os _) (by kernel_rfl)) ?_
  intro W base args ds gs before hval hW _ hk _ hX
  refine Kx (P := Tryz.prog) (fn := Tryz.f4) (spec := Rows.manifestParsesSpec) (tb := 4) (B := 1048576) ?_ rfl La (by kernel_rfl) (by kernel_rfl) Tryz.underlying4 (fun xs h => manifestParses_args h) hval hW (.inr (CH hk)) (Et hX)
  intro ds hds
  rw [show Tryz.f4.params.toList = [9] from by rw [Tryz.params4]] at hds
  match ds, hds with
  | [d1], _ => rfl

theorem manifestParses_holds : Rows.ManifestParsesUptoSaid :=
  OpenClaim.holds_of_cond 4 Tryz.f4 rfl rfl rfl rfl rfl rfl rfl ⟨rfl, rfl, rfl, rfl, rfl⟩ rfl rfl rfl rfl rfl (by kernel_rfl) Tryz.func4 (ED bO VM VN VO VP (by kernel_rfl))
    (of_decide_eq_true (by kernel_rfl)) (by unfold Func.isWrapper; first | (rw [if_pos (by decide +kernel)]; kernel_rfl) | (rw [if_neg (by decide +kernel)]; exact ⟨rfl, rfl⟩))
    (fun os started H enc _ F => manifestParses_lifted os started H enc F)
theorem manifestParses_card : Rows.ManifestParsesUptoCardSaid :=
  Claim7.holds_tied_plain_at .later [] [.data, .data, .data, .sentinel, .sentinel] true (true, "80fe5eea182c748f304475dbe8dc5fda16e967ac494a9253f26acc6e8d80e050") true
    manifestParses_holds (fun _ h => by cases h) VQ (fun _ h => by cases h) manifestParsesUpto_row_tie rfl ⟨rfl, rfl⟩ VS rfl
    (fun f fn hf hfn => by
      obtain rfl : f = 4 := Option.some.inj (manifestParses_k3.symm.trans hf) |>.symm
      obtain rfl : fn = Tryz.f4 := (Option.some.inj (Tryz.func4.symm.trans hfn)).symm
      exact ⟨VT, fun j t ht => by
        have hm : t ∈ Tryz.f4.params.toList := List.mem_of_getElem? (by simpa using ht)
        rw [show Tryz.f4.params.toList = [9] from by rw [Tryz.params4]] at hm
        simp only [List.mem_cons, List.not_mem_nil, or_false] at hm
        subst hm; exact (show Tryz.prog.wantsStandIn 9 = false by kernel_rfl)⟩)
    VR
end Go.Proofs.YtmbelkfkhclnkaaGreatDoor.K
