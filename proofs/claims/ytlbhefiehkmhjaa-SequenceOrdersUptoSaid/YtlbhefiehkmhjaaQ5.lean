/- Contracts: sequence.Next. -/
import Derived.Test.YtlbhefiehkmhjaaQ4
set_option linter.unusedVariables false
set_option linter.unusedSimpArgs false
namespace Go.Proofs.Ytlbhefiehkmhjaa.K
open Go Go.AM Go.Proofs
set_option maxRecDepth 8000
set_option maxHeartbeats 8000000

/-- the visits of an order that can follow -/
def nextO (x : Inst) (S : Nat) (l : List Vis) (i : Nat) : List Vis := if S.testBit i = true ∧ (nth x.orders i).off = false then (visO x.orders i).filter (readyB x l) else []
def nextU (x : Inst) (S : Nat) (l : List Vis) (k : Nat) : List Vis := (List.range k).flatMap (nextO x S l)
theorem nextU_succ (x S l k) : nextU x S l (k + 1) = nextU x S l k ++ nextO x S l k := by simp [nextU, List.range_succ]
theorem nextO_len (x S l i) : (nextO x S l i).length ≤ 2 := by
  unfold nextO; split
  · exact Nat.le_trans (List.length_filter_le _ _) (visO_len _ _)
  · simp
theorem nextU_len (x S l) : ∀ k, (nextU x S l k).length ≤ 2 * k
  | 0 => by simp [nextU]
  | k + 1 => by
    have h1 := nextU_len x S l k
    have h2 := nextO_len x S l k
    rw [nextU_succ, List.length_append]; omega
theorem visO_mem {os : List Ord} {i : Nat} {v : Vis} (h : v ∈ visO os i) : v.order = i := visO_order h

theorem seqNext_c (x : Inst) (S : Nat) (l : List Vis) (c : Bool) (hS : S < 9223372036854775808) (hl : l.length ≤ 1048576) (ho : x.orders.length ≤ 60) (hbl : x.before.length ≤ 1048576) (hb : ∀ p ∈ x.before, 0 ≤ p.1 ∧ p.1 < x.orders.length) :
    ACalls Try.prog 22 [.p (eInst x), .p (.int .i64 (S : Nat)), .p (.list c (l.map eVis))] [] fun y H' => y = .p (.list false ((nextU x S l x.orders.length).map eVis)) ∧ H' = [] := by
  refine ACalls.frozen (S := 2) (n := (nextU x S l x.orders.length).length) (by simp) ?_
  suffices hh : ACalls Try.prog 22 [.p (eInst x), .p (.int .i64 (S : Nat)), .p (.list c (l.map eVis))] [] fun y H' => ∃ m : List Vis, m = nextU x S l x.orders.length ∧ y = .sl 0 0 m.length m.length ∧ H' = [.elems 2 (m.map eVis)] by
    refine hh.mono ?_
    rintro x H' ⟨m, rfl, h1, h2⟩
    exact ⟨h1, h2⟩
  refine acalls_freshE [2] (fn := Try.f22) Try.func22 rfl isF22 ?_
  simp (disch := omega) only [Try.f22, go_sem, Nat.reduceAdd, Nat.reduceMul, Nat.reduceSub, Nat.reduceLeDiff, Nat.reduceLT, Nat.reduceEqDiff, Nat.reduceBEq, Nat.reduceBNe, Int.reduceNeg, Int.reduceToNat, Int.reduceLT, Int.reduceLE, Int.reduceEq, Int.reduceAdd, Int.reduceMul, Int.reduceSub, Nat.reduceSucc, Nat.reduceGT, Nat.reducePow, Int.reducePow, reduceCtorEq, ↓reduceIte]
  refine awp_weak (Weak.ofNil 7 2 (by simp (disch := omega) only [go_sem, Nat.reduceAdd, Nat.reduceMul, Nat.reduceSub, Nat.reduceLeDiff, Nat.reduceLT, Nat.reduceEqDiff, Nat.reduceBEq, Nat.reduceBNe, Int.reduceNeg, Int.reduceToNat, Int.reduceLT, Int.reduceLE, Int.reduceEq, Int.reduceAdd, Int.reduceMul, Int.reduceSub, Nat.reduceSucc, Nat.reduceGT, Nat.reducePow, Int.reducePow, reduceCtorEq, ↓reduceIte]) (by simp) (Weak.refl _ _ _)) ?_
  refine awp_sound [] _ _ _ _ ?_
  simp (disch := omega) only [go_sem, Nat.reduceAdd, Nat.reduceMul, Nat.reduceSub, Nat.reduceLeDiff, Nat.reduceLT, Nat.reduceEqDiff, Nat.reduceBEq, Nat.reduceBNe, Int.reduceNeg, Int.reduceToNat, Int.reduceLT, Int.reduceLE, Int.reduceEq, Int.reduceAdd, Int.reduceMul, Int.reduceSub, Nat.reduceSucc, Nat.reduceGT, Nat.reducePow, Int.reducePow, reduceCtorEq, ↓reduceIte]
  refine awp_for [1, 2, 3, 13, 14] (fun q : Nat × List Vis => [(7, .sl 1 0 q.2.length q.2.length), (15, .p (.int .i64 q.1))]) (fun q => [instO x, .elems 2 (q.2.map eVis)]) (fun q => q.1 ≤ x.orders.length ∧ q.2 = nextU x S l q.1) (fun q => x.orders.length - q.1) (0, []) ⟨by simp, by simp [nextU]⟩ (Weak.mk ?_) ?_
  · simp (disch := omega) only [instO, go_sem, Nat.reduceAdd, Nat.reduceMul, Nat.reduceSub, Nat.reduceLeDiff, Nat.reduceLT, Nat.reduceEqDiff, Nat.reduceBEq, Nat.reduceBNe, Int.reduceNeg, Int.reduceToNat, Int.reduceLT, Int.reduceLE, Int.reduceEq, Int.reduceAdd, Int.reduceMul, Int.reduceSub, Nat.reduceSucc, Nat.reduceGT, Nat.reducePow, Int.reducePow, reduceCtorEq, ↓reduceIte]
  · rintro ⟨k, m⟩ ⟨hk, hm⟩
    simp only at hk hm
    have hml : m.length ≤ 2 * k := by rw [hm]; exact nextU_len x S l k
    have hsc := nextU_succ x S l k
    simp (disch := omega) only [instO, go_sem, Nat.reduceAdd, Nat.reduceMul, Nat.reduceSub, Nat.reduceLeDiff, Nat.reduceLT, Nat.reduceEqDiff, Nat.reduceBEq, Nat.reduceBNe, Int.reduceNeg, Int.reduceToNat, Int.reduceLT, Int.reduceLE, Int.reduceEq, Int.reduceAdd, Int.reduceMul, Int.reduceSub, Nat.reduceSucc, Nat.reduceGT, Nat.reducePow, Int.reducePow, reduceCtorEq, ↓reduceIte]
    refine acond_b (fun h => ?_) (fun h => ?_) <;> (try simp only [decide_eq_true_eq, decide_eq_false_iff_not] at h) <;> simp (disch := omega) only [Sh.out h, go_sem, Nat.reduceAdd, Nat.reduceMul, Nat.reduceSub, Nat.reduceLeDiff, Nat.reduceLT, Nat.reduceEqDiff, Nat.reduceBEq, Nat.reduceBNe, Int.reduceNeg, Int.reduceToNat, Int.reduceLT, Int.reduceLE, Int.reduceEq, Int.reduceAdd, Int.reduceMul, Int.reduceSub, Nat.reduceSucc, Nat.reduceGT, Nat.reducePow, Int.reducePow, reduceCtorEq, ↓reduceIte]
    · have hk2 : k < x.orders.length := by omega
      refine aguard_f (fun h62 => ?_) (fun h62 => ?_) <;> (try simp only [decide_eq_true_eq, decide_eq_false_iff_not] at h62) <;> simp (disch := omega) only [Sh.out h62, go_sem, Nat.reduceAdd, Nat.reduceMul, Nat.reduceSub, Nat.reduceLeDiff, Nat.reduceLT, Nat.reduceEqDiff, Nat.reduceBEq, Nat.reduceBNe, Int.reduceNeg, Int.reduceToNat, Int.reduceLT, Int.reduceLE, Int.reduceEq, Int.reduceAdd, Int.reduceMul, Int.reduceSub, Nat.reduceSucc, Nat.reduceGT, Nat.reducePow, Int.reducePow, reduceCtorEq, ↓reduceIte]
      · omega
      refine aguard_f (fun h2 => ?_) (fun h2 => ?_) <;> (try simp only [decide_eq_true_eq, decide_eq_false_iff_not] at h2) <;> simp (disch := omega) only [Sh.out h2, go_sem, Nat.reduceAdd, Nat.reduceMul, Nat.reduceSub, Nat.reduceLeDiff, Nat.reduceLT, Nat.reduceEqDiff, Nat.reduceBEq, Nat.reduceBNe, Int.reduceNeg, Int.reduceToNat, Int.reduceLT, Int.reduceLE, Int.reduceEq, Int.reduceAdd, Int.reduceMul, Int.reduceSub, Nat.reduceSucc, Nat.reduceGT, Nat.reducePow, Int.reducePow, reduceCtorEq, ↓reduceIte]
      · have hbit : S.testBit k = false := by simpa only [bit_eq0] using h2
        have e : nextO x S l k = [] := by simp [nextO, hbit]
        exact ⟨(k + 1, m), ⟨by simp only; omega, by simp only [hsc, e, hm, List.append_nil]⟩, by simp only; omega, Weak.mk (by simp (disch := omega) only [instO, go_sem, Nat.reduceAdd, Nat.reduceMul, Nat.reduceSub, Nat.reduceLeDiff, Nat.reduceLT, Nat.reduceEqDiff, Nat.reduceBEq, Nat.reduceBNe, Int.reduceNeg, Int.reduceToNat, Int.reduceLT, Int.reduceLE, Int.reduceEq, Int.reduceAdd, Int.reduceMul, Int.reduceSub, Nat.reduceSucc, Nat.reduceGT, Nat.reducePow, Int.reducePow, reduceCtorEq, ↓reduceIte])⟩
      · have hbit : S.testBit k = true := by
          cases hq : S.testBit k with
          | true => rfl
          | false => exact absurd (by simpa only [bit_eq0] using hq) h2
        refine acond_b (fun h3 => ?_) (fun h3 => ?_) <;> (try simp only [decide_eq_true_eq, decide_eq_false_iff_not] at h3) <;> simp (disch := omega) only [Sh.out h3, go_sem, Nat.reduceAdd, Nat.reduceMul, Nat.reduceSub, Nat.reduceLeDiff, Nat.reduceLT, Nat.reduceEqDiff, Nat.reduceBEq, Nat.reduceBNe, Int.reduceNeg, Int.reduceToNat, Int.reduceLT, Int.reduceLE, Int.reduceEq, Int.reduceAdd, Int.reduceMul, Int.reduceSub, Nat.reduceSucc, Nat.reduceGT, Nat.reducePow, Int.reducePow, reduceCtorEq, ↓reduceIte]
        · have e : nextO x S l k = [] := by simp [nextO, h3]
          exact ⟨(k + 1, m), ⟨by simp only; omega, by simp only [hsc, e, hm, List.append_nil]⟩, by simp only; omega, Weak.mk (by simp (disch := omega) only [instO, go_sem, Nat.reduceAdd, Nat.reduceMul, Nat.reduceSub, Nat.reduceLeDiff, Nat.reduceLT, Nat.reduceEqDiff, Nat.reduceBEq, Nat.reduceBNe, Int.reduceNeg, Int.reduceToNat, Int.reduceLT, Int.reduceLE, Int.reduceEq, Int.reduceAdd, Int.reduceMul, Int.reduceSub, Nat.reduceSucc, Nat.reduceGT, Nat.reducePow, Int.reducePow, reduceCtorEq, ↓reduceIte])⟩
        · have h3' : (nth x.orders k).off = false := by simpa using h3
          have e : nextO x S l k = (visO x.orders k).filter (readyB x l) := by simp [nextO, hbit, h3']
          refine (visits_c x.orders x.orders_c k hk2 (by omega)).use ?_
          simp (disch := omega) only [go_sem, Nat.reduceAdd, Nat.reduceMul, Nat.reduceSub, Nat.reduceLeDiff, Nat.reduceLT, Nat.reduceEqDiff, Nat.reduceBEq, Nat.reduceBNe, Int.reduceNeg, Int.reduceToNat, Int.reduceLT, Int.reduceLE, Int.reduceEq, Int.reduceAdd, Int.reduceMul, Int.reduceSub, Nat.reduceSucc, Nat.reduceGT, Nat.reducePow, Int.reducePow, reduceCtorEq, ↓reduceIte]
          have hvl := visO_len x.orders k
          have hvo : ∀ v ∈ visO x.orders k, v.order = k := fun v hv => visO_order hv
          generalize hown : visO x.orders k = own at hvl e hvo ⊢
          refine awp_for [1, 2, 3, 13, 14, 15, 36, 37] (fun q : Nat × List Vis => [(7, .sl 1 0 q.2.length q.2.length), (38, .p (.int .i64 q.1))]) (fun q => [instO x, .elems 2 (q.2.map eVis), ordO (nth x.orders k)]) (fun q => q.1 ≤ own.length ∧ q.2 = m ++ (own.take q.1).filter (readyB x l)) (fun q => own.length - q.1) (0, m) ⟨by simp, by simp⟩ (Weak.mk ?_) ?_
          · simp (disch := omega) only [instO, ordO, h3', go_sem, Nat.reduceAdd, Nat.reduceMul, Nat.reduceSub, Nat.reduceLeDiff, Nat.reduceLT, Nat.reduceEqDiff, Nat.reduceBEq, Nat.reduceBNe, Int.reduceNeg, Int.reduceToNat, Int.reduceLT, Int.reduceLE, Int.reduceEq, Int.reduceAdd, Int.reduceMul, Int.reduceSub, Nat.reduceSucc, Nat.reduceGT, Nat.reducePow, Int.reducePow, reduceCtorEq, ↓reduceIte]
          · rintro ⟨j, m2⟩ ⟨hj, hm2⟩
            simp only at hj hm2
            have hm2l : m2.length ≤ 2 * k + 2 := by
              have := List.length_filter_le (readyB x l) (own.take j)
              rw [hm2, List.length_append]
              simp at this
              omega
            simp (disch := omega) only [instO, ordO, h3', go_sem, Nat.reduceAdd, Nat.reduceMul, Nat.reduceSub, Nat.reduceLeDiff, Nat.reduceLT, Nat.reduceEqDiff, Nat.reduceBEq, Nat.reduceBNe, Int.reduceNeg, Int.reduceToNat, Int.reduceLT, Int.reduceLE, Int.reduceEq, Int.reduceAdd, Int.reduceMul, Int.reduceSub, Nat.reduceSucc, Nat.reduceGT, Nat.reducePow, Int.reducePow, reduceCtorEq, ↓reduceIte]
            refine acond_b (fun h4 => ?_) (fun h4 => ?_) <;> (try simp only [decide_eq_true_eq, decide_eq_false_iff_not] at h4) <;> simp (disch := omega) only [Sh.out h4, go_sem, Nat.reduceAdd, Nat.reduceMul, Nat.reduceSub, Nat.reduceLeDiff, Nat.reduceLT, Nat.reduceEqDiff, Nat.reduceBEq, Nat.reduceBNe, Int.reduceNeg, Int.reduceToNat, Int.reduceLT, Int.reduceLE, Int.reduceEq, Int.reduceAdd, Int.reduceMul, Int.reduceSub, Nat.reduceSucc, Nat.reduceGT, Nat.reducePow, Int.reducePow, reduceCtorEq, ↓reduceIte]
            · have hj2 : j < own.length := by omega
              have hvj := hvo _ (nth_mem hj2)
              have htk : own.take (j + 1) = own.take j ++ [nth own j] := by rw [List.take_succ_eq_append_getElem hj2, nth_get hj2]
              have hrd := seqReady_c x l c (nth own j) hl (by omega) hbl (by omega) hb
              refine (hrd).use ?_
              simp (disch := omega) only [go_sem, Nat.reduceAdd, Nat.reduceMul, Nat.reduceSub, Nat.reduceLeDiff, Nat.reduceLT, Nat.reduceEqDiff, Nat.reduceBEq, Nat.reduceBNe, Int.reduceNeg, Int.reduceToNat, Int.reduceLT, Int.reduceLE, Int.reduceEq, Int.reduceAdd, Int.reduceMul, Int.reduceSub, Nat.reduceSucc, Nat.reduceGT, Nat.reducePow, Int.reducePow, reduceCtorEq, ↓reduceIte]
              refine acond_b (fun h5 => ?_) (fun h5 => ?_) <;> (try simp only [decide_eq_true_eq, decide_eq_false_iff_not] at h5) <;> simp (disch := omega) only [Sh.out h5, go_sem, Nat.reduceAdd, Nat.reduceMul, Nat.reduceSub, Nat.reduceLeDiff, Nat.reduceLT, Nat.reduceEqDiff, Nat.reduceBEq, Nat.reduceBNe, Int.reduceNeg, Int.reduceToNat, Int.reduceLT, Int.reduceLE, Int.reduceEq, Int.reduceAdd, Int.reduceMul, Int.reduceSub, Nat.reduceSucc, Nat.reduceGT, Nat.reducePow, Int.reducePow, reduceCtorEq, ↓reduceIte]
              · exact ⟨(j + 1, m2 ++ [nth own j]), ⟨by simp only; omega, by simp only [htk, List.filter_append, hm2, List.append_assoc]; simp [h5]⟩, by simp only; omega, Weak.mk (by simp (disch := omega) only [instO, ordO, h3', go_sem, Nat.reduceAdd, Nat.reduceMul, Nat.reduceSub, Nat.reduceLeDiff, Nat.reduceLT, Nat.reduceEqDiff, Nat.reduceBEq, Nat.reduceBNe, Int.reduceNeg, Int.reduceToNat, Int.reduceLT, Int.reduceLE, Int.reduceEq, Int.reduceAdd, Int.reduceMul, Int.reduceSub, Nat.reduceSucc, Nat.reduceGT, Nat.reducePow, Int.reducePow, reduceCtorEq, ↓reduceIte])⟩
              · exact ⟨(j + 1, m2), ⟨by simp only; omega, by simp only [htk, List.filter_append, hm2]; simp [h5]⟩, by simp only; omega, Weak.mk (by simp (disch := omega) only [instO, ordO, h3', go_sem, Nat.reduceAdd, Nat.reduceMul, Nat.reduceSub, Nat.reduceLeDiff, Nat.reduceLT, Nat.reduceEqDiff, Nat.reduceBEq, Nat.reduceBNe, Int.reduceNeg, Int.reduceToNat, Int.reduceLT, Int.reduceLE, Int.reduceEq, Int.reduceAdd, Int.reduceMul, Int.reduceSub, Nat.reduceSucc, Nat.reduceGT, Nat.reducePow, Int.reducePow, reduceCtorEq, ↓reduceIte])⟩
            · have hjl : j = own.length := by omega
              subst hjl
              exact ⟨(k + 1, m2), ⟨by simp only; omega, by simp only [hsc, e, hm2, hm, List.take_length]⟩, by simp only; omega, Weak.mk (by simp (disch := omega) only [instO, go_sem, Nat.reduceAdd, Nat.reduceMul, Nat.reduceSub, Nat.reduceLeDiff, Nat.reduceLT, Nat.reduceEqDiff, Nat.reduceBEq, Nat.reduceBNe, Int.reduceNeg, Int.reduceToNat, Int.reduceLT, Int.reduceLE, Int.reduceEq, Int.reduceAdd, Int.reduceMul, Int.reduceSub, Nat.reduceSucc, Nat.reduceGT, Nat.reducePow, Int.reducePow, reduceCtorEq, ↓reduceIte])⟩
    · have hkn : k = x.orders.length := by omega
      subst hkn
      exact ⟨m, hm, 1, by simp (disch := omega) only [instO, go_sem, Nat.reduceAdd, Nat.reduceMul, Nat.reduceSub, Nat.reduceLeDiff, Nat.reduceLT, Nat.reduceEqDiff, Nat.reduceBEq, Nat.reduceBNe, Int.reduceNeg, Int.reduceToNat, Int.reduceLT, Int.reduceLE, Int.reduceEq, Int.reduceAdd, Int.reduceMul, Int.reduceSub, Nat.reduceSucc, Nat.reduceGT, Nat.reducePow, Int.reducePow, reduceCtorEq, ↓reduceIte]⟩
end Go.Proofs.Ytlbhefiehkmhjaa.K
