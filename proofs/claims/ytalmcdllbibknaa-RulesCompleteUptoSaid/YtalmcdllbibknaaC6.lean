/- Contracts: chains. -/
import Derived.Test.YtalmcdllbibknaaC3
import Derived.Test.YtalmcdllbibknaaM2
import Derived.Test.YtalmcdllbibknaaA3
set_option linter.unusedVariables false
set_option linter.unusedSimpArgs false
namespace Go.Proofs.Ytalmcdllbibknaa.K
open Go Go.AM Go.Proofs
set_option maxRecDepth 8000
set_option maxHeartbeats 4000000

def eN (n : Nat) : PV := .int .i64 (n : Int)
@[go_sem] theorem eN_eq (n : Nat) : eN n = .int .i64 (n : Int) := Eq.trans rfl rfl

theorem chains_c (n : Nat) (be : List (Int × Int)) (c : Bool) (hn : n ≤ 60) (hl : be.length ≤ 1048576) (hv : Val n be) :
    ACalls Try.prog 29 [.p (.int .i64 (n : Int)), .p (.list c (be.map eP))] [] fun x H' => x = .sl 0 0 n n ∧ H' = [.elems 1 ((cloOf n be).map eN)] := by
  refine acalls_fresh (fn := Try.f29) (by simpa using (clo_of hv).len) Try.func29 rfl isF29 ?_
  simp (disch := omega) only [Try.f29, go_sem, Nat.reduceAdd, Nat.reduceMul, Nat.reduceSub, Nat.reduceLeDiff, Nat.reduceLT, Nat.reduceEqDiff, Nat.reduceBEq, Nat.reduceBNe, Int.reduceNeg, Int.reduceToNat, Int.reduceLT, Int.reduceLE, Int.reduceEq, Int.reduceAdd, Int.reduceMul, Int.reduceSub, Nat.reduceSucc, Nat.reduceGT, Nat.reducePow, Int.reducePow, reduceCtorEq, ↓reduceIte]
  have hp60 : pw n ≤ pw 62 := pw_le (by omega)
  have h62 := pw_62
  refine awp_for [0, 1] (fun q : List Nat × Bool => [(5, .sl 0 0 n n), (6, .p (.bool q.2))]) (fun q => [.elems 1 (q.1.map eN)]) (fun q => Snd n be q.1 ∧ (q.2 = false → tot (pas q.1 be) = tot q.1)) (fun q => 2 * (n * pw n - tot q.1) + (if q.2 then 1 else 0)) (List.replicate n 0, true) ⟨Snd.zero n be, by simp⟩ (Weak.mk ?_) ?_
  · simp (disch := omega) only [List.map_replicate, go_sem, Nat.reduceAdd, Nat.reduceMul, Nat.reduceSub, Nat.reduceLeDiff, Nat.reduceLT, Nat.reduceEqDiff, Nat.reduceBEq, Nat.reduceBNe, Int.reduceNeg, Int.reduceToNat, Int.reduceLT, Int.reduceLE, Int.reduceEq, Int.reduceAdd, Int.reduceMul, Int.reduceSub, Nat.reduceSucc, Nat.reduceGT, Nat.reducePow, Int.reducePow, reduceCtorEq, ↓reduceIte]
  · rintro ⟨out, more⟩ ⟨hs, hm⟩
    simp only at hs hm
    simp (disch := omega) only [go_sem, Nat.reduceAdd, Nat.reduceMul, Nat.reduceSub, Nat.reduceLeDiff, Nat.reduceLT, Nat.reduceEqDiff, Nat.reduceBEq, Nat.reduceBNe, Int.reduceNeg, Int.reduceToNat, Int.reduceLT, Int.reduceLE, Int.reduceEq, Int.reduceAdd, Int.reduceMul, Int.reduceSub, Nat.reduceSucc, Nat.reduceGT, Nat.reducePow, Int.reducePow, reduceCtorEq, ↓reduceIte]
    refine acond_b (fun h => ?_) (fun h => ?_) <;> (try simp only [decide_eq_true_eq, decide_eq_false_iff_not] at h) <;> simp (disch := omega) only [h, go_sem, Nat.reduceAdd, Nat.reduceMul, Nat.reduceSub, Nat.reduceLeDiff, Nat.reduceLT, Nat.reduceEqDiff, Nat.reduceBEq, Nat.reduceBNe, Int.reduceNeg, Int.reduceToNat, Int.reduceLT, Int.reduceLE, Int.reduceEq, Int.reduceAdd, Int.reduceMul, Int.reduceSub, Nat.reduceSucc, Nat.reduceGT, Nat.reducePow, Int.reducePow, reduceCtorEq, ↓reduceIte]
    · have hrs : ∀ i, Snd n be (pas out (be.take i)) := fun i => hs.rnd hv _ fun p hp => List.mem_of_mem_take hp
      have hsuc : ∀ i, i < be.length → pas out (be.take (i + 1)) = cst (pas out (be.take i)) (nth be i) := fun i hi => by
        rw [List.take_succ_eq_append_getElem hi, pas_append, ← nth_get hi]; rfl
      refine awp_for [0, 1, 16, 17] (fun i : Nat => [(5, .sl 0 0 n n), (6, .p (.bool (decide (tot out < tot (pas out (be.take i)))))), (18, .p (.int .i64 i))]) (fun i => [.elems 1 ((pas out (be.take i)).map eN)]) (fun i => i ≤ be.length) (fun i => be.length - i) 0 (by simp) (Weak.mk ?_) ?_
      · simp (disch := omega) only [pas, List.take_zero, List.foldl_nil, go_sem, Nat.reduceAdd, Nat.reduceMul, Nat.reduceSub, Nat.reduceLeDiff, Nat.reduceLT, Nat.reduceEqDiff, Nat.reduceBEq, Nat.reduceBNe, Int.reduceNeg, Int.reduceToNat, Int.reduceLT, Int.reduceLE, Int.reduceEq, Int.reduceAdd, Int.reduceMul, Int.reduceSub, Nat.reduceSucc, Nat.reduceGT, Nat.reducePow, Int.reducePow, reduceCtorEq, ↓reduceIte]
        simp
      · intro i hi
        have hsi := hrs i
        generalize hgo : pas out (be.take i) = o at hsi ⊢
        have hlo := hsi.len
        simp (disch := omega) only [go_sem, Nat.reduceAdd, Nat.reduceMul, Nat.reduceSub, Nat.reduceLeDiff, Nat.reduceLT, Nat.reduceEqDiff, Nat.reduceBEq, Nat.reduceBNe, Int.reduceNeg, Int.reduceToNat, Int.reduceLT, Int.reduceLE, Int.reduceEq, Int.reduceAdd, Int.reduceMul, Int.reduceSub, Nat.reduceSucc, Nat.reduceGT, Nat.reducePow, Int.reducePow, reduceCtorEq, ↓reduceIte]
        refine acond_b (fun h2 => ?_) (fun h2 => ?_) <;> (try simp only [decide_eq_true_eq, decide_eq_false_iff_not] at h2) <;> simp (disch := omega) only [h2, go_sem, Nat.reduceAdd, Nat.reduceMul, Nat.reduceSub, Nat.reduceLeDiff, Nat.reduceLT, Nat.reduceEqDiff, Nat.reduceBEq, Nat.reduceBNe, Int.reduceNeg, Int.reduceToNat, Int.reduceLT, Int.reduceLE, Int.reduceEq, Int.reduceAdd, Int.reduceMul, Int.reduceSub, Nat.reduceSucc, Nat.reduceGT, Nat.reducePow, Int.reducePow, reduceCtorEq, ↓reduceIte]
        · have hib : i < be.length := by omega
          have hvi := hv (nth be i) (by rw [nth_get hib]; exact List.getElem_mem _)
          have g1 : ¬ (nth be i).1 < 0 := by omega
          have g2 : ¬ (nth be i).2 < 0 := by omega
          have g3 : ¬ (n : Int) ≤ (nth be i).1 := by omega
          have g4 : ¬ (n : Int) ≤ (nth be i).2 := by omega
          have g5 : (nth be i).1.toNat < n := by omega
          have g6 : (nth be i).2.toNat < n := by omega
          have b1 := hsi.lt _ g5
          have b2 := hsi.lt _ g6
          have b3 : nth o (nth be i).2.toNat ||| nth o (nth be i).1.toNat < pw n := Nat.or_lt_two_pow b2 b1
          have b4 : pw (nth be i).1.toNat ≤ pw 62 := pw_le (by omega)
          have hst := cst_tot o (nth be i) (by omega)
          have hnx := hsuc i hib
          rw [hgo] at hnx
          refine awp_drawnF mixed (by kernel_rfl) ?_
          simp (disch := omega) only [hlo, g1, g2, g3, g4, go_sem, Nat.reduceAdd, Nat.reduceMul, Nat.reduceSub, Nat.reduceLeDiff, Nat.reduceLT, Nat.reduceEqDiff, Nat.reduceBEq, Nat.reduceBNe, Int.reduceNeg, Int.reduceToNat, Int.reduceLT, Int.reduceLE, Int.reduceEq, Int.reduceAdd, Int.reduceMul, Int.reduceSub, Nat.reduceSucc, Nat.reduceGT, Nat.reducePow, Int.reducePow, reduceCtorEq, ↓reduceIte]
          refine awp_drawnF mixed (by kernel_rfl) ?_
          simp (disch := first | omega | (simp only [List.length_cons, List.length_nil, List.length_append, List.length_map, List.length_take, List.length_drop] <;> omega)) only [hlo, g5, g6, elt_map, go_sem, Nat.reduceAdd, Nat.reduceMul, Nat.reduceSub, Nat.reduceLeDiff, Nat.reduceLT, Nat.reduceEqDiff, Nat.reduceBEq, Nat.reduceBNe, Int.reduceNeg, Int.reduceToNat, Int.reduceLT, Int.reduceLE, Int.reduceEq, Int.reduceAdd, Int.reduceMul, Int.reduceSub, Nat.reduceSucc, Nat.reduceGT, Nat.reducePow, Int.reducePow, reduceCtorEq, ↓reduceIte]
          have htm : tot out ≤ tot o := by
            have := (pas_tot hv (be.take i) out (fun p hp => List.mem_of_mem_take hp) hs).1
            rwa [hgo] at this
          have hsv : o.set (nth be i).2.toNat (nth o (nth be i).2.toNat ||| nth o (nth be i).1.toNat ||| pw (nth be i).1.toNat) = cst o (nth be i) := rfl
          refine acond_b (fun h3 => ?_) (fun h3 => ?_) <;> (try simp only [decide_eq_true_eq, decide_eq_false_iff_not] at h3) <;> simp (disch := omega) only [h3, hlo, go_sem, Nat.reduceAdd, Nat.reduceMul, Nat.reduceSub, Nat.reduceLeDiff, Nat.reduceLT, Nat.reduceEqDiff, Nat.reduceBEq, Nat.reduceBNe, Int.reduceNeg, Int.reduceToNat, Int.reduceLT, Int.reduceLE, Int.reduceEq, Int.reduceAdd, Int.reduceMul, Int.reduceSub, Nat.reduceSucc, Nat.reduceGT, Nat.reducePow, Int.reducePow, reduceCtorEq, ↓reduceIte]
          · have hne : ¬ cst o (nth be i) = o := fun e => by
              apply h3
              have e2 : nth (cst o (nth be i)) (nth be i).2.toNat = nth o (nth be i).2.toNat := by rw [e]
              rw [cst, nth_set _ _ _ _ (by omega)] at e2
              simp only [if_true] at e2
              rw [e2]
            have hlt : tot out < tot (cst o (nth be i)) := by
              have h5 := hst.1
              have h6 : tot (cst o (nth be i)) ≠ tot o := fun e => hne (hst.2 e)
              omega
            simp (disch := first | omega | (simp only [List.length_cons, List.length_nil, List.length_append, List.length_map, List.length_take, List.length_drop] <;> omega)) only [hlo, g6, go_sem, Nat.reduceAdd, Nat.reduceMul, Nat.reduceSub, Nat.reduceLeDiff, Nat.reduceLT, Nat.reduceEqDiff, Nat.reduceBEq, Nat.reduceBNe, Int.reduceNeg, Int.reduceToNat, Int.reduceLT, Int.reduceLE, Int.reduceEq, Int.reduceAdd, Int.reduceMul, Int.reduceSub, Nat.reduceSucc, Nat.reduceGT, Nat.reducePow, Int.reducePow, reduceCtorEq, ↓reduceIte]
            refine ⟨i + 1, by omega, by omega, Weak.mk ?_⟩
            simp (disch := omega) only [hnx, hlt, go_sem, Nat.reduceAdd, Nat.reduceMul, Nat.reduceSub, Nat.reduceLeDiff, Nat.reduceLT, Nat.reduceEqDiff, Nat.reduceBEq, Nat.reduceBNe, Int.reduceNeg, Int.reduceToNat, Int.reduceLT, Int.reduceLE, Int.reduceEq, Int.reduceAdd, Int.reduceMul, Int.reduceSub, Nat.reduceSucc, Nat.reduceGT, Nat.reducePow, Int.reducePow, reduceCtorEq, ↓reduceIte]
            rw [← hsv, List.map_set]
            rfl
          · have heq : cst o (nth be i) = o := by
              have e : nth o (nth be i).2.toNat ||| nth o (nth be i).1.toNat ||| pw (nth be i).1.toNat = nth o (nth be i).2.toNat := by simp only [Classical.not_not] at h3; exact_mod_cast h3
              rw [← hsv, e]
              apply List.ext_getElem (by simp)
              intro k hk1 hk2
              rw [List.getElem_set]
              split
              · rename_i hk; subst hk; rw [nth_get hk2]
              · rfl
            refine ⟨i + 1, by omega, by omega, Weak.mk ?_⟩
            simp (disch := omega) only [hnx, heq, go_sem, Nat.reduceAdd, Nat.reduceMul, Nat.reduceSub, Nat.reduceLeDiff, Nat.reduceLT, Nat.reduceEqDiff, Nat.reduceBEq, Nat.reduceBNe, Int.reduceNeg, Int.reduceToNat, Int.reduceLT, Int.reduceLE, Int.reduceEq, Int.reduceAdd, Int.reduceMul, Int.reduceSub, Nat.reduceSucc, Nat.reduceGT, Nat.reducePow, Int.reducePow, reduceCtorEq, ↓reduceIte]
        · have hi2 : i = be.length := by omega
          subst hi2
          rw [List.take_length] at hgo
          subst hgo
          have hpt := pas_tot hv be out (fun _ h => h) hs
          have hbd := hsi.bound
          refine ⟨(pas out be, decide (tot out < tot (pas out be))), ⟨hsi, fun e => ?_⟩, ?_, Weak.mk ?_⟩
          · simp only [decide_eq_false_iff_not] at e
            have e2 : tot (pas out be) = tot out := by have := hpt.1; omega
            rw [(hpt.2 e2).1, e2]
          · simp only
            rw [h]
            by_cases h7 : tot out < tot (pas out be)
            · simp only [h7, decide_true, if_true]
              omega
            · simp only [h7, decide_false, if_true]
              have := hpt.1
              simp
              omega
          · simp (disch := omega) only [go_sem, Nat.reduceAdd, Nat.reduceMul, Nat.reduceSub, Nat.reduceLeDiff, Nat.reduceLT, Nat.reduceEqDiff, Nat.reduceBEq, Nat.reduceBNe, Int.reduceNeg, Int.reduceToNat, Int.reduceLT, Int.reduceLE, Int.reduceEq, Int.reduceAdd, Int.reduceMul, Int.reduceSub, Nat.reduceSucc, Nat.reduceGT, Nat.reducePow, Int.reducePow, reduceCtorEq, ↓reduceIte]
    · refine ⟨0, ?_⟩
      have : out = cloOf n be := (cloOf_eq hv (hs.clo hv (hm h))).symm
      rw [this]
      simp (disch := omega) only [go_sem, Nat.reduceAdd, Nat.reduceMul, Nat.reduceSub, Nat.reduceLeDiff, Nat.reduceLT, Nat.reduceEqDiff, Nat.reduceBEq, Nat.reduceBNe, Int.reduceNeg, Int.reduceToNat, Int.reduceLT, Int.reduceLE, Int.reduceEq, Int.reduceAdd, Int.reduceMul, Int.reduceSub, Nat.reduceSucc, Nat.reduceGT, Nat.reducePow, Int.reducePow, reduceCtorEq, ↓reduceIte]
end Go.Proofs.Ytalmcdllbibknaa.K
