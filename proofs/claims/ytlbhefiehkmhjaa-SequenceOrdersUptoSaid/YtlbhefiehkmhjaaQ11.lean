/- Contracts: the specification of sequences: possible. -/
import Derived.Test.YtlbhefiehkmhjaaQ10
set_option linter.unusedVariables false
set_option linter.unusedSimpArgs false
namespace Go.Proofs.Ytlbhefiehkmhjaa.K
open Go Go.AM Go.Proofs
set_option maxRecDepth 8000
set_option maxHeartbeats 8000000

theorem nodup_le {n : Nat} : ∀ {ds : List Nat}, ds.Nodup → (∀ i ∈ ds, i < n) → ds.length ≤ n := by
  intro ds hd hl
  have h := List.Nodup.length_le_of_subset (l₁ := ds) (l₂ := List.range n) hd (fun i hi => by simpa using hl i hi)
  simpa using h
theorem visD_snoc {x ds i} : visD x (ds ++ [i]) = visD x ds ++ visO x.orders i := by simp [visD]
theorem visD_len {x} : ∀ ds, (visD x ds).length ≤ 2 * ds.length
  | [] => by simp [visD]
  | d :: ds => by
    have := visD_len (x := x) ds
    have := visO_len x.orders d
    simp only [visD, List.flatMap_cons, List.length_append, List.length_cons] at *
    omega

/-- an order cannot be visited next -/
def Stk (x : Inst) (S : Nat) (ds : List Nat) (i : Nat) : Prop := S.testBit i = true → (nth x.orders i).off = false → i ∉ ds → ∃ p ∈ x.before, p.2 = (i : Int) ∧ p.1.toNat ∉ ds

theorem possible_c (x : Inst) (S : Nat) (hS : S < 9223372036854775808) (hSn : S / pw x.orders.length = 0) (ho : x.orders.length ≤ 60) (hap : x.apart.length ≤ 1048576) (hbl : x.before.length ≤ 1048576) (hp : Plc x) (hv : Val x.orders.length x.before) (hne : Vne x) :
    ACalls Try.prog 58 [.p (eInst x), .p (.int .i64 (S : Nat))] [] fun y H' => y = .p (.bool (decide (S ≠ 0) && !forbB x S)) ∧ H' = [] := by
  have hb : ∀ p ∈ x.before, 0 ≤ p.1 ∧ p.1 < x.orders.length := fun p hp => ⟨(hv p hp).1, (hv p hp).2.1⟩
  have hfi := forb_iff ho hSn hv
  refine acalls_pureC [4] (fn := Try.f58) Try.func58 rfl isF58 ?_
  simp (disch := omega) only [Try.f58, go_sem, Nat.reduceAdd, Nat.reduceMul, Nat.reduceSub, Nat.reduceLeDiff, Nat.reduceLT, Nat.reduceEqDiff, Nat.reduceBEq, Nat.reduceBNe, Int.reduceNeg, Int.reduceToNat, Int.reduceLT, Int.reduceLE, Int.reduceEq, Int.reduceAdd, Int.reduceMul, Int.reduceSub, Nat.reduceSucc, Nat.reduceGT, Nat.reducePow, Int.reducePow, reduceCtorEq, ↓reduceIte]
  refine aguard_f (fun h => ?_) (fun h => ?_) <;> (try simp only [decide_eq_true_eq, decide_eq_false_iff_not] at h) <;> simp (disch := omega) only [Sh.out h, go_sem, Nat.reduceAdd, Nat.reduceMul, Nat.reduceSub, Nat.reduceLeDiff, Nat.reduceLT, Nat.reduceEqDiff, Nat.reduceBEq, Nat.reduceBNe, Int.reduceNeg, Int.reduceToNat, Int.reduceLT, Int.reduceLE, Int.reduceEq, Int.reduceAdd, Int.reduceMul, Int.reduceSub, Nat.reduceSucc, Nat.reduceGT, Nat.reducePow, Int.reducePow, reduceCtorEq, ↓reduceIte]
  · have : S = 0 := by omega
    simp [this]
  · have hs0 : S ≠ 0 := by omega
    have hres : (decide (S ≠ 0) && !forbB x S) = !forbB x S := by simp [hs0]
    rw [hres]
    refine (rapart_c x S hS hap).use ?_
    simp (disch := omega) only [go_sem, Nat.reduceAdd, Nat.reduceMul, Nat.reduceSub, Nat.reduceLeDiff, Nat.reduceLT, Nat.reduceEqDiff, Nat.reduceBEq, Nat.reduceBNe, Int.reduceNeg, Int.reduceToNat, Int.reduceLT, Int.reduceLE, Int.reduceEq, Int.reduceAdd, Int.reduceMul, Int.reduceSub, Nat.reduceSucc, Nat.reduceGT, Nat.reducePow, Int.reducePow, reduceCtorEq, ↓reduceIte]
    refine acond_b (fun h2 => ?_) (fun h2 => ?_) <;> (try simp only [decide_eq_true_eq, decide_eq_false_iff_not] at h2) <;> simp (disch := omega) only [Sh.out h2, go_sem, Nat.reduceAdd, Nat.reduceMul, Nat.reduceSub, Nat.reduceLeDiff, Nat.reduceLT, Nat.reduceEqDiff, Nat.reduceBEq, Nat.reduceBNe, Int.reduceNeg, Int.reduceToNat, Int.reduceLT, Int.reduceLE, Int.reduceEq, Int.reduceAdd, Int.reduceMul, Int.reduceSub, Nat.reduceSucc, Nat.reduceGT, Nat.reducePow, Int.reducePow, reduceCtorEq, ↓reduceIte]
    · have h3 : apB x S = true := by simpa using h2
      cases hf : forbB x S with
      | true => rfl
      | false => rw [(hfi.1 hf).apart] at h3; cases h3
    · have h3 : apB x S = false := by simpa using h2
      refine awp_weak (Weak.ofNil 5 2 (by simp (disch := omega) only [go_sem, Nat.reduceAdd, Nat.reduceMul, Nat.reduceSub, Nat.reduceLeDiff, Nat.reduceLT, Nat.reduceEqDiff, Nat.reduceBEq, Nat.reduceBNe, Int.reduceNeg, Int.reduceToNat, Int.reduceLT, Int.reduceLE, Int.reduceEq, Int.reduceAdd, Int.reduceMul, Int.reduceSub, Nat.reduceSucc, Nat.reduceGT, Nat.reducePow, Int.reducePow, reduceCtorEq, ↓reduceIte]) (by simp) (Weak.refl _ _ _)) ?_
      refine awp_sound [] _ _ _ _ ?_
      simp (disch := omega) only [go_sem, Nat.reduceAdd, Nat.reduceMul, Nat.reduceSub, Nat.reduceLeDiff, Nat.reduceLT, Nat.reduceEqDiff, Nat.reduceBEq, Nat.reduceBNe, Int.reduceNeg, Int.reduceToNat, Int.reduceLT, Int.reduceLE, Int.reduceEq, Int.reduceAdd, Int.reduceMul, Int.reduceSub, Nat.reduceSucc, Nat.reduceGT, Nat.reducePow, Int.reducePow, reduceCtorEq, ↓reduceIte]
      refine awp_for [1, 2] (fun q : List Nat × Bool => [(5, .sl 1 0 (visD x q.1).length (visD x q.1).length), (6, .p (.bool q.2))]) (fun q => [instO x, .elems 2 ((visD x q.1).map eVis)])
        (fun q => Dn x S q.1 ∧ (q.2 = false → ∀ i, i < x.orders.length → Stk x S q.1 i)) (fun q => 2 * (x.orders.length - q.1.length) + (if q.2 = true then 1 else 0)) ([], true) ⟨.nil, by simp⟩ (Weak.mk ?_) ?_
      · simp (disch := omega) only [instO, visD, List.flatMap_nil, go_sem, Nat.reduceAdd, Nat.reduceMul, Nat.reduceSub, Nat.reduceLeDiff, Nat.reduceLT, Nat.reduceEqDiff, Nat.reduceBEq, Nat.reduceBNe, Int.reduceNeg, Int.reduceToNat, Int.reduceLT, Int.reduceLE, Int.reduceEq, Int.reduceAdd, Int.reduceMul, Int.reduceSub, Nat.reduceSucc, Nat.reduceGT, Nat.reducePow, Int.reducePow, reduceCtorEq, ↓reduceIte]
      · rintro ⟨ds, ag⟩ ⟨hd, hag⟩
        simp only at hd hag
        simp (disch := omega) only [instO, go_sem, Nat.reduceAdd, Nat.reduceMul, Nat.reduceSub, Nat.reduceLeDiff, Nat.reduceLT, Nat.reduceEqDiff, Nat.reduceBEq, Nat.reduceBNe, Int.reduceNeg, Int.reduceToNat, Int.reduceLT, Int.reduceLE, Int.reduceEq, Int.reduceAdd, Int.reduceMul, Int.reduceSub, Nat.reduceSucc, Nat.reduceGT, Nat.reducePow, Int.reducePow, reduceCtorEq, ↓reduceIte]
        refine acond_b (fun h4 => ?_) (fun h4 => ?_) <;> (try simp only [decide_eq_true_eq, decide_eq_false_iff_not] at h4) <;> simp (disch := omega) only [Sh.out h4, go_sem, Nat.reduceAdd, Nat.reduceMul, Nat.reduceSub, Nat.reduceLeDiff, Nat.reduceLT, Nat.reduceEqDiff, Nat.reduceBEq, Nat.reduceBNe, Int.reduceNeg, Int.reduceToNat, Int.reduceLT, Int.reduceLE, Int.reduceEq, Int.reduceAdd, Int.reduceMul, Int.reduceSub, Nat.reduceSucc, Nat.reduceGT, Nat.reducePow, Int.reducePow, reduceCtorEq, ↓reduceIte]
        · subst h4
          refine awp_for [1, 2] (fun q : List Nat × Bool × Nat => [(5, .sl 1 0 (visD x q.1).length (visD x q.1).length), (6, .p (.bool q.2.1)), (7, .p (.int .i64 q.2.2))]) (fun q => [instO x, .elems 2 ((visD x q.1).map eVis)])
            (fun q => q.2.2 ≤ x.orders.length ∧ Dn x S q.1 ∧ (q.2.1 = true → ds.length < q.1.length) ∧ (q.2.1 = false → q.1 = ds ∧ ∀ i, i < q.2.2 → Stk x S ds i)) (fun q => x.orders.length - q.2.2) (ds, false, 0) ⟨by simp, hd, by simp, fun _ => ⟨rfl, by simp⟩⟩ (Weak.mk ?_) ?_
          · simp (disch := omega) only [instO, go_sem, Nat.reduceAdd, Nat.reduceMul, Nat.reduceSub, Nat.reduceLeDiff, Nat.reduceLT, Nat.reduceEqDiff, Nat.reduceBEq, Nat.reduceBNe, Int.reduceNeg, Int.reduceToNat, Int.reduceLT, Int.reduceLE, Int.reduceEq, Int.reduceAdd, Int.reduceMul, Int.reduceSub, Nat.reduceSucc, Nat.reduceGT, Nat.reducePow, Int.reducePow, reduceCtorEq, ↓reduceIte]
          · rintro ⟨ds2, ag2, i⟩ ⟨hi, hd2, hag1, hag2⟩
            simp only at hi hd2 hag1 hag2
            have hdl := nodup_le hd2.nodup fun i hi => (hd2.lt i hi).1
            have hvl := visD_len (x := x) ds2
            simp (disch := omega) only [instO, go_sem, Nat.reduceAdd, Nat.reduceMul, Nat.reduceSub, Nat.reduceLeDiff, Nat.reduceLT, Nat.reduceEqDiff, Nat.reduceBEq, Nat.reduceBNe, Int.reduceNeg, Int.reduceToNat, Int.reduceLT, Int.reduceLE, Int.reduceEq, Int.reduceAdd, Int.reduceMul, Int.reduceSub, Nat.reduceSucc, Nat.reduceGT, Nat.reducePow, Int.reducePow, reduceCtorEq, ↓reduceIte]
            refine acond_b (fun h5 => ?_) (fun h5 => ?_) <;> (try simp only [decide_eq_true_eq, decide_eq_false_iff_not] at h5) <;> simp (disch := omega) only [Sh.out h5, go_sem, Nat.reduceAdd, Nat.reduceMul, Nat.reduceSub, Nat.reduceLeDiff, Nat.reduceLT, Nat.reduceEqDiff, Nat.reduceBEq, Nat.reduceBNe, Int.reduceNeg, Int.reduceToNat, Int.reduceLT, Int.reduceLE, Int.reduceEq, Int.reduceAdd, Int.reduceMul, Int.reduceSub, Nat.reduceSucc, Nat.reduceGT, Nat.reducePow, Int.reducePow, reduceCtorEq, ↓reduceIte]
            · have hi2 : i < x.orders.length := by omega
              have hskip : (ag2 = false → Stk x S ds i) → ag2 = false → ds2 = ds ∧ ∀ j, j < i + 1 → Stk x S ds j := fun hk e => ⟨(hag2 e).1, upto_iff.2 ⟨(hag2 e).2, hk e⟩⟩
              refine (rhas16_c S (i : Int) hS).use ?_
              simp (disch := omega) only [go_sem, Nat.reduceAdd, Nat.reduceMul, Nat.reduceSub, Nat.reduceLeDiff, Nat.reduceLT, Nat.reduceEqDiff, Nat.reduceBEq, Nat.reduceBNe, Int.reduceNeg, Int.reduceToNat, Int.reduceLT, Int.reduceLE, Int.reduceEq, Int.reduceAdd, Int.reduceMul, Int.reduceSub, Nat.reduceSucc, Nat.reduceGT, Nat.reducePow, Int.reducePow, reduceCtorEq, ↓reduceIte]
              rw [nHas_nat (by omega)]
              refine aguard_t (fun h6 => ?_) (fun h6 => ?_) <;> (try simp only [decide_eq_true_eq, decide_eq_false_iff_not] at h6) <;> simp (disch := omega) only [Sh.out h6, go_sem, Nat.reduceAdd, Nat.reduceMul, Nat.reduceSub, Nat.reduceLeDiff, Nat.reduceLT, Nat.reduceEqDiff, Nat.reduceBEq, Nat.reduceBNe, Int.reduceNeg, Int.reduceToNat, Int.reduceLT, Int.reduceLE, Int.reduceEq, Int.reduceAdd, Int.reduceMul, Int.reduceSub, Nat.reduceSucc, Nat.reduceGT, Nat.reducePow, Int.reducePow, reduceCtorEq, ↓reduceIte]
              · refine aguard_t (fun h7 => ?_) (fun h7 => ?_) <;> (try simp only [decide_eq_true_eq, decide_eq_false_iff_not] at h7) <;> simp (disch := omega) only [Sh.out h7, go_sem, Nat.reduceAdd, Nat.reduceMul, Nat.reduceSub, Nat.reduceLeDiff, Nat.reduceLT, Nat.reduceEqDiff, Nat.reduceBEq, Nat.reduceBNe, Int.reduceNeg, Int.reduceToNat, Int.reduceLT, Int.reduceLE, Int.reduceEq, Int.reduceAdd, Int.reduceMul, Int.reduceSub, Nat.reduceSucc, Nat.reduceGT, Nat.reducePow, Int.reducePow, reduceCtorEq, ↓reduceIte]
                · have h8 : (nth x.orders i).off = false := by simpa using h7
                  refine (rvisits_c x i hi2 (by omega) hp).use ?_
                  simp (disch := omega) only [go_sem, Nat.reduceAdd, Nat.reduceMul, Nat.reduceSub, Nat.reduceLeDiff, Nat.reduceLT, Nat.reduceEqDiff, Nat.reduceBEq, Nat.reduceBNe, Int.reduceNeg, Int.reduceToNat, Int.reduceLT, Int.reduceLE, Int.reduceEq, Int.reduceAdd, Int.reduceMul, Int.reduceSub, Nat.reduceSucc, Nat.reduceGT, Nat.reducePow, Int.reducePow, reduceCtorEq, ↓reduceIte]
                  have hvo := visO_len x.orders i
                  have hcon := rcontains_c (visD x ds2) (visO x.orders i) false false (by omega) (by omega)
                  refine ACalls.view (hcon) (by simp [vws, vw, oat, take_map_len] <;> rfl) (by rfl) ?_
                  simp (disch := omega) only [go_sem, Nat.reduceAdd, Nat.reduceMul, Nat.reduceSub, Nat.reduceLeDiff, Nat.reduceLT, Nat.reduceEqDiff, Nat.reduceBEq, Nat.reduceBNe, Int.reduceNeg, Int.reduceToNat, Int.reduceLT, Int.reduceLE, Int.reduceEq, Int.reduceAdd, Int.reduceMul, Int.reduceSub, Nat.reduceSucc, Nat.reduceGT, Nat.reducePow, Int.reducePow, reduceCtorEq, ↓reduceIte]
                  refine aguard_t (fun h9 => ?_) (fun h9 => ?_) <;> (try simp only [decide_eq_true_eq, decide_eq_false_iff_not] at h9) <;> simp (disch := omega) only [Sh.out h9, go_sem, Nat.reduceAdd, Nat.reduceMul, Nat.reduceSub, Nat.reduceLeDiff, Nat.reduceLT, Nat.reduceEqDiff, Nat.reduceBEq, Nat.reduceBNe, Int.reduceNeg, Int.reduceToNat, Int.reduceLT, Int.reduceLE, Int.reduceEq, Int.reduceAdd, Int.reduceMul, Int.reduceSub, Nat.reduceSucc, Nat.reduceGT, Nat.reducePow, Int.reducePow, reduceCtorEq, ↓reduceIte]
                  · have h10 : i ∉ ds2 := fun hm => by
                      rw [(allIn_visD hne hi2).2 hm] at h9; simp at h9
                    refine ACalls.view (rready_c x i (visD x ds2) false (by omega) (by omega) hbl hp hb (by omega)) (by simp [vws, vw, oat, take_map_len] <;> rfl) (by rfl) ?_
                    simp (disch := omega) only [go_sem, Nat.reduceAdd, Nat.reduceMul, Nat.reduceSub, Nat.reduceLeDiff, Nat.reduceLT, Nat.reduceEqDiff, Nat.reduceBEq, Nat.reduceBNe, Int.reduceNeg, Int.reduceToNat, Int.reduceLT, Int.reduceLE, Int.reduceEq, Int.reduceAdd, Int.reduceMul, Int.reduceSub, Nat.reduceSucc, Nat.reduceGT, Nat.reducePow, Int.reducePow, reduceCtorEq, ↓reduceIte]
                    refine acond_b (fun h11 => ?_) (fun h11 => ?_) <;> (try simp only [decide_eq_true_eq, decide_eq_false_iff_not] at h11) <;> simp (disch := omega) only [Sh.out h11, go_sem, Nat.reduceAdd, Nat.reduceMul, Nat.reduceSub, Nat.reduceLeDiff, Nat.reduceLT, Nat.reduceEqDiff, Nat.reduceBEq, Nat.reduceBNe, Int.reduceNeg, Int.reduceToNat, Int.reduceLT, Int.reduceLE, Int.reduceEq, Int.reduceAdd, Int.reduceMul, Int.reduceSub, Nat.reduceSucc, Nat.reduceGT, Nat.reducePow, Int.reducePow, reduceCtorEq, ↓reduceIte]
                    · refine (rvisits_c x i hi2 (by omega) hp).use ?_
                      simp (disch := omega) only [go_sem, Nat.reduceAdd, Nat.reduceMul, Nat.reduceSub, Nat.reduceLeDiff, Nat.reduceLT, Nat.reduceEqDiff, Nat.reduceBEq, Nat.reduceBNe, Int.reduceNeg, Int.reduceToNat, Int.reduceLT, Int.reduceLE, Int.reduceEq, Int.reduceAdd, Int.reduceMul, Int.reduceSub, Nat.reduceSucc, Nat.reduceGT, Nat.reducePow, Int.reducePow, reduceCtorEq, ↓reduceIte]
                      refine ⟨(ds2 ++ [i], true, i + 1), ⟨by simp only; omega, ?_, fun _ => ?_, by simp⟩, by simp only; omega, Weak.mk ?_⟩
                      · refine .snoc hd2 hi2 h6 h8 h10 fun p hpb e => ?_
                        have h12 := befs_iff.1 h11 p hpb e
                        obtain ⟨w, hw⟩ := List.exists_mem_of_ne_nil _ (hne p.1.toNat (by have := hb p hpb; omega))
                        exact (mem_visD hw).1 (h12 w hw)
                      · simp only [List.length_append, List.length_cons, List.length_nil]
                        cases ag2 with
                        | true => have := hag1 rfl; omega
                        | false => rw [(hag2 rfl).1]; omega
                      · simp (disch := omega) only [instO, visD_snoc, List.length_append, List.map_append, go_sem, Nat.reduceAdd, Nat.reduceMul, Nat.reduceSub, Nat.reduceLeDiff, Nat.reduceLT, Nat.reduceEqDiff, Nat.reduceBEq, Nat.reduceBNe, Int.reduceNeg, Int.reduceToNat, Int.reduceLT, Int.reduceLE, Int.reduceEq, Int.reduceAdd, Int.reduceMul, Int.reduceSub, Nat.reduceSucc, Nat.reduceGT, Nat.reducePow, Int.reducePow, reduceCtorEq, ↓reduceIte]
                    · refine ⟨(ds2, ag2, i + 1), ⟨by simp only; omega, hd2, hag1, hskip fun e => ?_⟩, by simp only; omega, Weak.mk (by simp (disch := omega) only [instO, go_sem, Nat.reduceAdd, Nat.reduceMul, Nat.reduceSub, Nat.reduceLeDiff, Nat.reduceLT, Nat.reduceEqDiff, Nat.reduceBEq, Nat.reduceBNe, Int.reduceNeg, Int.reduceToNat, Int.reduceLT, Int.reduceLE, Int.reduceEq, Int.reduceAdd, Int.reduceMul, Int.reduceSub, Nat.reduceSucc, Nat.reduceGT, Nat.reducePow, Int.reducePow, reduceCtorEq, ↓reduceIte])⟩
                      intro _ _ _
                      have h13 : ¬ x.before.all (befP x.orders (visD x ds2) (i : Int)) = true := by rw [h11]; simp
                      rw [befs_iff] at h13
                      refine Classical.byContradiction fun hno => h13 fun p hpb e2 w hw => ?_
                      rw [mem_visD hw]
                      refine Classical.byContradiction fun hno2 => hno ⟨p, hpb, e2, ?_⟩
                      rw [← (hag2 e).1]; exact hno2
                  · have h10 : i ∈ ds2 := (allIn_visD hne hi2).1 (by simpa using h9)
                    exact ⟨(ds2, ag2, i + 1), ⟨by simp only; omega, hd2, hag1, hskip fun e _ _ hn => absurd ((hag2 e).1 ▸ h10) hn⟩, by simp only; omega, Weak.mk (by simp (disch := omega) only [instO, go_sem, Nat.reduceAdd, Nat.reduceMul, Nat.reduceSub, Nat.reduceLeDiff, Nat.reduceLT, Nat.reduceEqDiff, Nat.reduceBEq, Nat.reduceBNe, Int.reduceNeg, Int.reduceToNat, Int.reduceLT, Int.reduceLE, Int.reduceEq, Int.reduceAdd, Int.reduceMul, Int.reduceSub, Nat.reduceSucc, Nat.reduceGT, Nat.reducePow, Int.reducePow, reduceCtorEq, ↓reduceIte])⟩
                · have h8 : (nth x.orders i).off = true := by simpa using h7
                  exact ⟨(ds2, ag2, i + 1), ⟨by simp only; omega, hd2, hag1, hskip fun e _ hn _ => by rw [h8] at hn; cases hn⟩, by simp only; omega, Weak.mk (by simp (disch := omega) only [instO, go_sem, Nat.reduceAdd, Nat.reduceMul, Nat.reduceSub, Nat.reduceLeDiff, Nat.reduceLT, Nat.reduceEqDiff, Nat.reduceBEq, Nat.reduceBNe, Int.reduceNeg, Int.reduceToNat, Int.reduceLT, Int.reduceLE, Int.reduceEq, Int.reduceAdd, Int.reduceMul, Int.reduceSub, Nat.reduceSucc, Nat.reduceGT, Nat.reducePow, Int.reducePow, reduceCtorEq, ↓reduceIte])⟩
              · exact ⟨(ds2, ag2, i + 1), ⟨by simp only; omega, hd2, hag1, hskip fun e hn _ _ => by rw [h6] at hn; cases hn⟩, by simp only; omega, Weak.mk (by simp (disch := omega) only [instO, go_sem, Nat.reduceAdd, Nat.reduceMul, Nat.reduceSub, Nat.reduceLeDiff, Nat.reduceLT, Nat.reduceEqDiff, Nat.reduceBEq, Nat.reduceBNe, Int.reduceNeg, Int.reduceToNat, Int.reduceLT, Int.reduceLE, Int.reduceEq, Int.reduceAdd, Int.reduceMul, Int.reduceSub, Nat.reduceSucc, Nat.reduceGT, Nat.reducePow, Int.reducePow, reduceCtorEq, ↓reduceIte])⟩
            · have hin : i = x.orders.length := by omega
              subst hin
              refine ⟨(ds2, ag2), ⟨hd2, fun e => ?_⟩, ?_, Weak.mk (by simp (disch := omega) only [instO, go_sem, Nat.reduceAdd, Nat.reduceMul, Nat.reduceSub, Nat.reduceLeDiff, Nat.reduceLT, Nat.reduceEqDiff, Nat.reduceBEq, Nat.reduceBNe, Int.reduceNeg, Int.reduceToNat, Int.reduceLT, Int.reduceLE, Int.reduceEq, Int.reduceAdd, Int.reduceMul, Int.reduceSub, Nat.reduceSucc, Nat.reduceGT, Nat.reducePow, Int.reducePow, reduceCtorEq, ↓reduceIte])⟩
              · rw [(hag2 e).1]; exact (hag2 e).2
              · simp only [if_true]
                cases ag2 with
                | true => have := hag1 rfl; simp; omega
                | false => rw [(hag2 rfl).1]; simp
        · subst h4
          have hst := hag rfl
          have hdl := nodup_le hd.nodup fun i hi => (hd.lt i hi).1
          have hvl := visD_len (x := x) ds
          refine awp_for [1, 2, 5] (fun k : Nat => [(8, .p (.int .i64 k))]) (fun _ => [instO x, .elems 2 ((visD x ds).map eVis)]) (fun k => k ≤ x.orders.length ∧ ∀ i, i < k → S.testBit i = true → (nth x.orders i).off = false ∧ i ∈ ds) (fun k => x.orders.length - k) 0 ⟨by simp, by simp⟩ (Weak.mk ?_) ?_
          · simp (disch := omega) only [instO, go_sem, Nat.reduceAdd, Nat.reduceMul, Nat.reduceSub, Nat.reduceLeDiff, Nat.reduceLT, Nat.reduceEqDiff, Nat.reduceBEq, Nat.reduceBNe, Int.reduceNeg, Int.reduceToNat, Int.reduceLT, Int.reduceLE, Int.reduceEq, Int.reduceAdd, Int.reduceMul, Int.reduceSub, Nat.reduceSucc, Nat.reduceGT, Nat.reducePow, Int.reducePow, reduceCtorEq, ↓reduceIte]
          · rintro k ⟨hk, hno⟩
            simp (disch := omega) only [instO, go_sem, Nat.reduceAdd, Nat.reduceMul, Nat.reduceSub, Nat.reduceLeDiff, Nat.reduceLT, Nat.reduceEqDiff, Nat.reduceBEq, Nat.reduceBNe, Int.reduceNeg, Int.reduceToNat, Int.reduceLT, Int.reduceLE, Int.reduceEq, Int.reduceAdd, Int.reduceMul, Int.reduceSub, Nat.reduceSucc, Nat.reduceGT, Nat.reducePow, Int.reducePow, reduceCtorEq, ↓reduceIte]
            refine acond_b (fun h5 => ?_) (fun h5 => ?_) <;> (try simp only [decide_eq_true_eq, decide_eq_false_iff_not] at h5) <;> simp (disch := omega) only [Sh.out h5, go_sem, Nat.reduceAdd, Nat.reduceMul, Nat.reduceSub, Nat.reduceLeDiff, Nat.reduceLT, Nat.reduceEqDiff, Nat.reduceBEq, Nat.reduceBNe, Int.reduceNeg, Int.reduceToNat, Int.reduceLT, Int.reduceLE, Int.reduceEq, Int.reduceAdd, Int.reduceMul, Int.reduceSub, Nat.reduceSucc, Nat.reduceGT, Nat.reducePow, Int.reducePow, reduceCtorEq, ↓reduceIte]
            · have hk2 : k < x.orders.length := by omega
              refine (rhas16_c S (k : Int) hS).use ?_
              simp (disch := omega) only [go_sem, Nat.reduceAdd, Nat.reduceMul, Nat.reduceSub, Nat.reduceLeDiff, Nat.reduceLT, Nat.reduceEqDiff, Nat.reduceBEq, Nat.reduceBNe, Int.reduceNeg, Int.reduceToNat, Int.reduceLT, Int.reduceLE, Int.reduceEq, Int.reduceAdd, Int.reduceMul, Int.reduceSub, Nat.reduceSucc, Nat.reduceGT, Nat.reducePow, Int.reducePow, reduceCtorEq, ↓reduceIte]
              rw [nHas_nat (by omega)]
              refine aguard_t (fun h6 => ?_) (fun h6 => ?_) <;> (try simp only [decide_eq_true_eq, decide_eq_false_iff_not] at h6) <;> simp (disch := omega) only [Sh.out h6, go_sem, Nat.reduceAdd, Nat.reduceMul, Nat.reduceSub, Nat.reduceLeDiff, Nat.reduceLT, Nat.reduceEqDiff, Nat.reduceBEq, Nat.reduceBNe, Int.reduceNeg, Int.reduceToNat, Int.reduceLT, Int.reduceLE, Int.reduceEq, Int.reduceAdd, Int.reduceMul, Int.reduceSub, Nat.reduceSucc, Nat.reduceGT, Nat.reducePow, Int.reducePow, reduceCtorEq, ↓reduceIte]
              · refine aguard_f (fun h7 => ?_) (fun h7 => ?_) <;> (try simp only [decide_eq_true_eq, decide_eq_false_iff_not] at h7) <;> simp (disch := omega) only [Sh.out h7, go_sem, Nat.reduceAdd, Nat.reduceMul, Nat.reduceSub, Nat.reduceLeDiff, Nat.reduceLT, Nat.reduceEqDiff, Nat.reduceBEq, Nat.reduceBNe, Int.reduceNeg, Int.reduceToNat, Int.reduceLT, Int.reduceLE, Int.reduceEq, Int.reduceAdd, Int.reduceMul, Int.reduceSub, Nat.reduceSucc, Nat.reduceGT, Nat.reducePow, Int.reducePow, reduceCtorEq, ↓reduceIte]
                · cases hf : forbB x S with
                  | true => rfl
                  | false => rw [(hfi.1 hf).off k hk2 h6] at h7; cases h7
                · refine (rvisits_c x k hk2 (by omega) hp).use ?_
                  simp (disch := omega) only [go_sem, Nat.reduceAdd, Nat.reduceMul, Nat.reduceSub, Nat.reduceLeDiff, Nat.reduceLT, Nat.reduceEqDiff, Nat.reduceBEq, Nat.reduceBNe, Int.reduceNeg, Int.reduceToNat, Int.reduceLT, Int.reduceLE, Int.reduceEq, Int.reduceAdd, Int.reduceMul, Int.reduceSub, Nat.reduceSucc, Nat.reduceGT, Nat.reducePow, Int.reducePow, reduceCtorEq, ↓reduceIte]
                  have hvo := visO_len x.orders k
                  refine ACalls.view (rcontains_c (visD x ds) (visO x.orders k) false false (by omega) (by omega)) (by simp [vws, vw, oat, take_map_len] <;> rfl) (by rfl) ?_
                  simp (disch := omega) only [go_sem, Nat.reduceAdd, Nat.reduceMul, Nat.reduceSub, Nat.reduceLeDiff, Nat.reduceLT, Nat.reduceEqDiff, Nat.reduceBEq, Nat.reduceBNe, Int.reduceNeg, Int.reduceToNat, Int.reduceLT, Int.reduceLE, Int.reduceEq, Int.reduceAdd, Int.reduceMul, Int.reduceSub, Nat.reduceSucc, Nat.reduceGT, Nat.reducePow, Int.reducePow, reduceCtorEq, ↓reduceIte]
                  refine acond_b (fun h8 => ?_) (fun h8 => ?_) <;> (try simp only [decide_eq_true_eq, decide_eq_false_iff_not] at h8) <;> simp (disch := omega) only [Sh.out h8, go_sem, Nat.reduceAdd, Nat.reduceMul, Nat.reduceSub, Nat.reduceLeDiff, Nat.reduceLT, Nat.reduceEqDiff, Nat.reduceBEq, Nat.reduceBNe, Int.reduceNeg, Int.reduceToNat, Int.reduceLT, Int.reduceLE, Int.reduceEq, Int.reduceAdd, Int.reduceMul, Int.reduceSub, Nat.reduceSucc, Nat.reduceGT, Nat.reducePow, Int.reducePow, reduceCtorEq, ↓reduceIte]
                  · cases hf : forbB x S with
                    | true => rfl
                    | false =>
                      have := hd.full (hfi.1 hf) ho hv hst k hk2 h6
                      rw [(allIn_visD hne hk2).2 this] at h8; simp at h8
                  · exact ⟨k + 1, ⟨by omega, upto_iff.2 ⟨hno, fun _ => ⟨h7, (allIn_visD hne hk2).1 (by simpa using h8)⟩⟩⟩, by omega, Weak.mk (by simp (disch := omega) only [instO, go_sem, Nat.reduceAdd, Nat.reduceMul, Nat.reduceSub, Nat.reduceLeDiff, Nat.reduceLT, Nat.reduceEqDiff, Nat.reduceBEq, Nat.reduceBNe, Int.reduceNeg, Int.reduceToNat, Int.reduceLT, Int.reduceLE, Int.reduceEq, Int.reduceAdd, Int.reduceMul, Int.reduceSub, Nat.reduceSucc, Nat.reduceGT, Nat.reducePow, Int.reducePow, reduceCtorEq, ↓reduceIte])⟩
              · exact ⟨k + 1, ⟨by omega, upto_iff.2 ⟨hno, fun e => by rw [h6] at e; cases e⟩⟩, by omega, Weak.mk (by simp (disch := omega) only [instO, go_sem, Nat.reduceAdd, Nat.reduceMul, Nat.reduceSub, Nat.reduceLeDiff, Nat.reduceLT, Nat.reduceEqDiff, Nat.reduceBEq, Nat.reduceBNe, Int.reduceNeg, Int.reduceToNat, Int.reduceLT, Int.reduceLE, Int.reduceEq, Int.reduceAdd, Int.reduceMul, Int.reduceSub, Nat.reduceSucc, Nat.reduceGT, Nat.reducePow, Int.reducePow, reduceCtorEq, ↓reduceIte])⟩
            · have hkn : k = x.orders.length := by omega
              subst hkn
              rw [hfi.2 (hd.alw h3 ho hSn hv hno)]
              rfl
end Go.Proofs.Ytlbhefiehkmhjaa.K
