
/- The statement ManifestPrintsUptoCardSaid is proved: for every input of bulk at most 1048576 the law ManifestPrints returns true and leaves its arguments as they were. Conditions: the bulk, and what the listed package-level variables hold at the start (the law does not read them), as the given row has it; the card ties the latter to the text of the program by the given tie. -/
import Derived.Test.YtmbelkfkhclnkaaGreatDoorZM19
import Derived.Test.YtmbelkfkhclnkaaGreatDoorCards
import Derived.SevenTiedAt
set_option linter.unusedVariables false
set_option linter.unusedSimpArgs false
namespace Go.Proofs.YtmbelkfkhclnkaaGreatDoor.K
open Go Go.AM Go.Proofs Go.RowKit

theorem manifestPrints_args {xs} (h : Vl Tryz.prog 1048576 Tryz.f3.params.toList xs) : ACalls Tryz.prog 3 (xs.map .p) [] fun x H' => x = .p (.bool true) /\ H' = [] := by
  rw [show Tryz.f3.params.toList = [22] from by rw [Tryz.params3]] at h
  obtain ⟨z1, r1, rfl, h1, h⟩ := Ak h
  obtain rfl := B0 h
  obtain ⟨x1, rfl, w1, u1⟩ := FW h1
  exact Kq x1 false w1 (fun r hr => u1 r hr)

set_option maxRecDepth 100000 in
theorem manifestPrints_lifted (os : Os) (started : os.Started) (H : Type) (enc : TypeId × Value -> H) (F : Stop.Interp) :
    ReturnsInHanded {} Tryz.checked os 3 .any (fun w args => ((Rows.OpenSpec.upto Rows.manifestPrintsSpec).pre enc Tryz.prog Tryz.f3 Rows.manifestPrintsUptoRow.domain false w args /\ laidMetH Tryz.prog Vh w) /\ sizedMet enc Tryz.prog Tryz.f3 (Rows.OpenSpec.upto Rows.manifestPrintsSpec) false w args) (((Rows.OpenSpec.upto Rows.manifestPrintsSpec).at F).post enc Tryz.prog Tryz.f3 false true false false) := by
  refine Aq (C := Tryz.checked) (s := Rows.OpenSpec.upto Rows.manifestPrintsSpec) (k := Rows.uptoSmall) (X := laidMetH Tryz.prog Vh) rfl own started (by kernel_rfl) Tryz.func3
    (KL (enc := enc) (C := Tryz.checked) (s := Rows.OpenSpec.upto Rows.manifestPrintsSpec) (k := Rows.uptoSmall) (X := laidMetH Tryz.prog Vh) rfl false (MD os) #[.slice none 0 0] 8 rfl (by kernel_rfl) (by kernel_rfl) (by kernel_rfl)
      (x := ([.nil], [], [])) (by kernel_rfl) rfl (by kernel_rfl) (Eo os _) (by kernel_rfl)) ?_
  intro W base args ds gs before hval hW _ hk _ hX
  refine Kr (P := Tryz.prog) (fn := Tryz.f3) (spec := Rows.manifestPrintsSpec) (tb := 4) (B := 1048576) ?_ rfl IW (by kernel_rfl) (by kernel_rfl) Tryz.underlying4 (fun xs h => manifestPrints_args h) hval hW (.inr (CC hk)) (Ee hX)
  intro ds hds
  rw [show Tryz.f3.params.toList = [22] from by rw [Tryz.params3]] at hds
  match ds, hds with
  | [d1], _ => rfl

theorem manifestPrints_holds : Rows.ManifestPrintsUptoSaid :=
  OpenClaim.holds_of_cond 3 Tryz.f3 rfl rfl rfl rfl rfl rfl rfl ⟨rfl, rfl, rfl, rfl, rfl⟩ rfl rfl rfl rfl rfl (by kernel_rfl) Tryz.func3 (En bK VK VL VM VN (by kernel_rfl))
    (of_decide_eq_true (by kernel_rfl)) (by unfold Func.isWrapper; first | (rw [if_pos (by decide +kernel)]; kernel_rfl) | (rw [if_neg (by decide +kernel)]; exact ⟨rfl, rfl⟩))
    (fun os started H enc _ F => manifestPrints_lifted os started H enc F)
theorem manifestPrints_card : Rows.ManifestPrintsUptoCardSaid :=
  Claim7.holds_tied_plain_at .later [] [.data, .data, .data, .sentinel, .sentinel] true (true, "80fe5eea182c748f304475dbe8dc5fda16e967ac494a9253f26acc6e8d80e050") true
    manifestPrints_holds (fun _ h => by cases h) VO (fun _ h => by cases h) manifestPrintsUpto_row_tie rfl ⟨rfl, rfl⟩ VQ rfl
    (fun f fn hf hfn => by
      obtain rfl : f = 3 := Option.some.inj (manifestPrints_k3.symm.trans hf) |>.symm
      obtain rfl : fn = Tryz.f3 := (Option.some.inj (Tryz.func3.symm.trans hfn)).symm
      exact ⟨VR, fun j t ht => by
        have hm : t ∈ Tryz.f3.params.toList := List.mem_of_getElem? (by simpa using ht)
        rw [show Tryz.f3.params.toList = [22] from by rw [Tryz.params3]] at hm
        simp only [List.mem_cons, List.not_mem_nil, or_false] at hm
        subst hm; exact (show Tryz.prog.wantsStandIn 22 = false by kernel_rfl)⟩)
    VP
end Go.Proofs.YtmbelkfkhclnkaaGreatDoor.K
