/- Contracts: sequence.forbidden, sequence.All. -/
import Derived.Test.YtlbhefiehkmhjaaQ6
set_option linter.unusedVariables false
set_option linter.unusedSimpArgs false
namespace Go.Proofs.Ytlbhefiehkmhjaa.K
open Go Go.AM Go.Proofs
set_option maxRecDepth 8000
set_option maxHeartbeats 8000000

theorem weak_tup2 {n : Nat} {x y x' y' : V} {H H' : List AM.Obj} (h : Weak n [x, y] H [x', y'] H') : Weak n [.tup [x, y]] H [.tup [x', y']] H' := fun F ι a w hr hf => by
  have hv := hf.get 0
  simp only [gt] at hv
  generalize hav : a.tmps.getD 0 undef = v at hv
  cases hv with | tup _ arr hs hc =>
  have f2 : Fr F H ι w [x, y] { tmps := arr, defers := [] } := ⟨hs, rfl, fun i z hi => hc i z hi⟩
  obtain ⟨ι', r, f, g⟩ := h F ι _ w hr f2
  refine ⟨ι', r, ⟨hf.1, hf.2.1, fun i z hi => ?_⟩, g⟩
  cases i with
  | zero =>
    simp at hi; subst hi
    rw [hav]
    exact .tup _ arr hs fun j c hj => f.2.2 j c hj
  | succ i => simp at hi

noncomputable def forbB (x : Inst) (S : Nat) : Bool := ((List.range x.orders.length).any fun i => S.testBit i && (nth x.orders i).off) || decide (allowed x.orders x.apart x.before (S : Nat) ≠ 0)
theorem forbidden_c (x : Inst) (S : Nat) (hS : S < 9223372036854775808) (ho : x.orders.length ≤ 60) (hap : x.apart.length ≤ 1048576) (hbl : x.before.length ≤ 1048576) (hv : Val x.orders.length x.before) :
    ACalls Try.prog 53 [.p (eInst x), .p (.int .i64 (S : Nat))] [] fun y H' => y = .p (.bool (forbB x S)) ∧ H' = [] := by
  refine acalls_pure (fn := Try.f53) Try.func53 rfl isF53 ?_
  simp (disch := omega) only [Try.f53, go_sem, Nat.reduceAdd, Nat.reduceMul, Nat.reduceSub, Nat.reduceLeDiff, Nat.reduceLT, Nat.reduceEqDiff, Nat.reduceBEq, Nat.reduceBNe, Int.reduceNeg, Int.reduceToNat, Int.reduceLT, Int.reduceLE, Int.reduceEq, Int.reduceAdd, Int.reduceMul, Int.reduceSub, Nat.reduceSucc, Nat.reduceGT, Nat.reducePow, Int.reducePow, reduceCtorEq, ↓reduceIte]
  refine awp_for [1, 2, 8, 9] (fun k : Nat => [(10, .p (.int .i64 k))]) (fun _ => [instO x]) (fun k => k ≤ x.orders.length ∧ ∀ j, j < k → (S.testBit j && (nth x.orders j).off) = false) (fun k => x.orders.length - k) 0 (by simp) (Weak.mk ?_) ?_
  · simp (disch := omega) only [instO, go_sem, Nat.reduceAdd, Nat.reduceMul, Nat.reduceSub, Nat.reduceLeDiff, Nat.reduceLT, Nat.reduceEqDiff, Nat.reduceBEq, Nat.reduceBNe, Int.reduceNeg, Int.reduceToNat, Int.reduceLT, Int.reduceLE, Int.reduceEq, Int.reduceAdd, Int.reduceMul, Int.reduceSub, Nat.reduceSucc, Nat.reduceGT, Nat.reducePow, Int.reducePow, reduceCtorEq, ↓reduceIte]
  · rintro k ⟨hk, hno⟩
    simp (disch := omega) only [instO, go_sem, Nat.reduceAdd, Nat.reduceMul, Nat.reduceSub, Nat.reduceLeDiff, Nat.reduceLT, Nat.reduceEqDiff, Nat.reduceBEq, Nat.reduceBNe, Int.reduceNeg, Int.reduceToNat, Int.reduceLT, Int.reduceLE, Int.reduceEq, Int.reduceAdd, Int.reduceMul, Int.reduceSub, Nat.reduceSucc, Nat.reduceGT, Nat.reducePow, Int.reducePow, reduceCtorEq, ↓reduceIte]
    refine acond_b (fun h => ?_) (fun h => ?_) <;> (try simp only [decide_eq_true_eq, decide_eq_false_iff_not] at h) <;> simp (disch := omega) only [Sh.out h, go_sem, Nat.reduceAdd, Nat.reduceMul, Nat.reduceSub, Nat.reduceLeDiff, Nat.reduceLT, Nat.reduceEqDiff, Nat.reduceBEq, Nat.reduceBNe, Int.reduceNeg, Int.reduceToNat, Int.reduceLT, Int.reduceLE, Int.reduceEq, Int.reduceAdd, Int.reduceMul, Int.reduceSub, Nat.reduceSucc, Nat.reduceGT, Nat.reducePow, Int.reducePow, reduceCtorEq, ↓reduceIte]
    · have hk2 : k < x.orders.length := by omega
      refine aguard_t (fun h2 => ?_) (fun h2 => ?_) <;> (try simp only [decide_eq_true_eq, decide_eq_false_iff_not] at h2) <;> simp (disch := omega) only [Sh.out h2, go_sem, Nat.reduceAdd, Nat.reduceMul, Nat.reduceSub, Nat.reduceLeDiff, Nat.reduceLT, Nat.reduceEqDiff, Nat.reduceBEq, Nat.reduceBNe, Int.reduceNeg, Int.reduceToNat, Int.reduceLT, Int.reduceLE, Int.reduceEq, Int.reduceAdd, Int.reduceMul, Int.reduceSub, Nat.reduceSucc, Nat.reduceGT, Nat.reducePow, Int.reducePow, reduceCtorEq, ↓reduceIte]
      · have hbit : S.testBit k = true := by simpa only [bit_eq1] using h2
        refine acond_b (fun h3 => ?_) (fun h3 => ?_) <;> (try simp only [decide_eq_true_eq, decide_eq_false_iff_not] at h3) <;> simp (disch := omega) only [Sh.out h3, go_sem, Nat.reduceAdd, Nat.reduceMul, Nat.reduceSub, Nat.reduceLeDiff, Nat.reduceLT, Nat.reduceEqDiff, Nat.reduceBEq, Nat.reduceBNe, Int.reduceNeg, Int.reduceToNat, Int.reduceLT, Int.reduceLE, Int.reduceEq, Int.reduceAdd, Int.reduceMul, Int.reduceSub, Nat.reduceSucc, Nat.reduceGT, Nat.reducePow, Int.reducePow, reduceCtorEq, ↓reduceIte]
        · have : ((List.range x.orders.length).any fun i => S.testBit i && (nth x.orders i).off) = true := by
            rw [List.any_eq_true]; exact ⟨k, by simpa using hk2, by simp [hbit, h3]⟩
          rw [forbB, this]; rfl
        · exact ⟨k + 1, ⟨by omega, upto_iff.2 ⟨hno, by simpa [hbit] using h3⟩⟩, by omega, Weak.mk (by simp (disch := omega) only [instO, go_sem, Nat.reduceAdd, Nat.reduceMul, Nat.reduceSub, Nat.reduceLeDiff, Nat.reduceLT, Nat.reduceEqDiff, Nat.reduceBEq, Nat.reduceBNe, Int.reduceNeg, Int.reduceToNat, Int.reduceLT, Int.reduceLE, Int.reduceEq, Int.reduceAdd, Int.reduceMul, Int.reduceSub, Nat.reduceSucc, Nat.reduceGT, Nat.reducePow, Int.reducePow, reduceCtorEq, ↓reduceIte])⟩
      · have hbit : S.testBit k = false := by
          cases hq : S.testBit k with
          | false => rfl
          | true => exact absurd (by simpa only [bit_eq1] using hq) h2
        exact ⟨k + 1, ⟨by omega, upto_iff.2 ⟨hno, by simp [hbit]⟩⟩, by omega, Weak.mk (by simp (disch := omega) only [instO, go_sem, Nat.reduceAdd, Nat.reduceMul, Nat.reduceSub, Nat.reduceLeDiff, Nat.reduceLT, Nat.reduceEqDiff, Nat.reduceBEq, Nat.reduceBNe, Int.reduceNeg, Int.reduceToNat, Int.reduceLT, Int.reduceLE, Int.reduceEq, Int.reduceAdd, Int.reduceMul, Int.reduceSub, Nat.reduceSucc, Nat.reduceGT, Nat.reducePow, Int.reducePow, reduceCtorEq, ↓reduceIte])⟩
    · have hkn : k = x.orders.length := by omega
      subst hkn
      have h0 : ((List.range x.orders.length).any fun i => S.testBit i && (nth x.orders i).off) = false := by
        rw [List.any_eq_false]; intro i hi; simpa using hno i (by simpa using hi)
      refine (allowed_c x.net x.types_c x.types x.orders_c x.apart_c x.before_c x.orders x.apart x.before (S : Nat) ho hap hbl hv).use ?_
      simp (disch := omega) only [go_sem, Nat.reduceAdd, Nat.reduceMul, Nat.reduceSub, Nat.reduceLeDiff, Nat.reduceLT, Nat.reduceEqDiff, Nat.reduceBEq, Nat.reduceBNe, Int.reduceNeg, Int.reduceToNat, Int.reduceLT, Int.reduceLE, Int.reduceEq, Int.reduceAdd, Int.reduceMul, Int.reduceSub, Nat.reduceSucc, Nat.reduceGT, Nat.reducePow, Int.reducePow, reduceCtorEq, ↓reduceIte]
      rw [forbB, h0, Bool.false_or]

/-- the number of visits of the orders of a set -/
def totU (x : Inst) (S k : Nat) : Nat := ((List.range k).map fun i => if S.testBit i = true then (visO x.orders i).length else 0).sum
theorem totU_succ (x S k) : totU x S (k + 1) = totU x S k + if S.testBit k = true then (visO x.orders k).length else 0 := by simp [totU, List.range_succ]
theorem totU_le (x S) : ∀ k, totU x S k ≤ 2 * k
  | 0 => by simp [totU]
  | k + 1 => by
    have h1 := totU_le x S k
    have h2 := visO_len x.orders k
    rw [totU_succ]
    split <;> omega

/-- all sequences -/
noncomputable def allR (x : Inst) (S : Nat) : List (List Vis) × Int :=
  if S / pw x.orders.length ≠ 0 then ([], 2)
  else if S = 0 ∨ forbB x S = true then ([], 0)
  else if (walk (fun l => nextU x S l x.orders.length) (totU x S x.orders.length) [] []).2 = true then ((walk (fun l => nextU x S l x.orders.length) (totU x S x.orders.length) [] []).1, 0) else ([], 4)

theorem seqAll_c (x : Inst) (S : Nat) (hS : S < 9223372036854775808) (ho : x.orders.length ≤ 60) (hap : x.apart.length ≤ 1048576) (hbl : x.before.length ≤ 1048576) (hv : Val x.orders.length x.before) (hpos : S ≠ 0 → S / pw x.orders.length = 0 → 0 < totU x S x.orders.length) :
    ACalls Try.prog 18 [.p (eInst x), .p (.int .i64 (S : Nat))] [] fun y H' => ∃ cl : Bool, y = .tup [.p (.list cl ((allR x S).1.map eL)), .p (.int .i64 (allR x S).2)] ∧ H' = [] := by
  refine acalls_weak [15] (fn := Try.f18) Try.func18 rfl isF18 ?_
  simp (disch := omega) only [Try.f18, go_sem, Nat.reduceAdd, Nat.reduceMul, Nat.reduceSub, Nat.reduceLeDiff, Nat.reduceLT, Nat.reduceEqDiff, Nat.reduceBEq, Nat.reduceBNe, Int.reduceNeg, Int.reduceToNat, Int.reduceLT, Int.reduceLE, Int.reduceEq, Int.reduceAdd, Int.reduceMul, Int.reduceSub, Nat.reduceSucc, Nat.reduceGT, Nat.reducePow, Int.reducePow, reduceCtorEq, ↓reduceIte]
  refine aguard_f (fun h00 => ?_) (fun h00 => ?_) <;> (try simp only [decide_eq_true_eq, decide_eq_false_iff_not] at h00) <;> simp (disch := omega) only [Sh.out h00, go_sem, Nat.reduceAdd, Nat.reduceMul, Nat.reduceSub, Nat.reduceLeDiff, Nat.reduceLT, Nat.reduceEqDiff, Nat.reduceBEq, Nat.reduceBNe, Int.reduceNeg, Int.reduceToNat, Int.reduceLT, Int.reduceLE, Int.reduceEq, Int.reduceAdd, Int.reduceMul, Int.reduceSub, Nat.reduceSucc, Nat.reduceGT, Nat.reducePow, Int.reducePow, reduceCtorEq, ↓reduceIte]
  · omega
  refine acond_b (fun h => ?_) (fun h => ?_) <;> (try simp only [decide_eq_true_eq, decide_eq_false_iff_not] at h) <;> simp (disch := omega) only [Sh.out h, go_sem, Nat.reduceAdd, Nat.reduceMul, Nat.reduceSub, Nat.reduceLeDiff, Nat.reduceLT, Nat.reduceEqDiff, Nat.reduceBEq, Nat.reduceBNe, Int.reduceNeg, Int.reduceToNat, Int.reduceLT, Int.reduceLE, Int.reduceEq, Int.reduceAdd, Int.reduceMul, Int.reduceSub, Nat.reduceSucc, Nat.reduceGT, Nat.reducePow, Int.reducePow, reduceCtorEq, ↓reduceIte]
  · have hr : allR x S = ([], 2) := by rw [allR, if_pos (by omega)]
    rw [hr]
    exact ⟨_, _, Weak.mk (by simp (disch := omega) only [go_sem, Nat.reduceAdd, Nat.reduceMul, Nat.reduceSub, Nat.reduceLeDiff, Nat.reduceLT, Nat.reduceEqDiff, Nat.reduceBEq, Nat.reduceBNe, Int.reduceNeg, Int.reduceToNat, Int.reduceLT, Int.reduceLE, Int.reduceEq, Int.reduceAdd, Int.reduceMul, Int.reduceSub, Nat.reduceSucc, Nat.reduceGT, Nat.reducePow, Int.reducePow, reduceCtorEq, ↓reduceIte]), true, rfl, rfl⟩
  · have h0 : ¬ (S / pw x.orders.length ≠ 0) := by omega
    refine aguard_f (fun h1 => ?_) (fun h1 => ?_) <;> (try simp only [decide_eq_true_eq, decide_eq_false_iff_not] at h1) <;> simp (disch := omega) only [Sh.out h1, go_sem, Nat.reduceAdd, Nat.reduceMul, Nat.reduceSub, Nat.reduceLeDiff, Nat.reduceLT, Nat.reduceEqDiff, Nat.reduceBEq, Nat.reduceBNe, Int.reduceNeg, Int.reduceToNat, Int.reduceLT, Int.reduceLE, Int.reduceEq, Int.reduceAdd, Int.reduceMul, Int.reduceSub, Nat.reduceSucc, Nat.reduceGT, Nat.reducePow, Int.reducePow, reduceCtorEq, ↓reduceIte]
    · have hr : allR x S = ([], 0) := by rw [allR, if_neg h0, if_pos (.inl (by omega))]
      rw [hr]
      exact ⟨_, _, Weak.mk (by simp (disch := omega) only [go_sem, Nat.reduceAdd, Nat.reduceMul, Nat.reduceSub, Nat.reduceLeDiff, Nat.reduceLT, Nat.reduceEqDiff, Nat.reduceBEq, Nat.reduceBNe, Int.reduceNeg, Int.reduceToNat, Int.reduceLT, Int.reduceLE, Int.reduceEq, Int.reduceAdd, Int.reduceMul, Int.reduceSub, Nat.reduceSucc, Nat.reduceGT, Nat.reducePow, Int.reducePow, reduceCtorEq, ↓reduceIte]), true, rfl, rfl⟩
    · refine (forbidden_c x S hS ho hap hbl hv).use ?_
      simp (disch := omega) only [go_sem, Nat.reduceAdd, Nat.reduceMul, Nat.reduceSub, Nat.reduceLeDiff, Nat.reduceLT, Nat.reduceEqDiff, Nat.reduceBEq, Nat.reduceBNe, Int.reduceNeg, Int.reduceToNat, Int.reduceLT, Int.reduceLE, Int.reduceEq, Int.reduceAdd, Int.reduceMul, Int.reduceSub, Nat.reduceSucc, Nat.reduceGT, Nat.reducePow, Int.reducePow, reduceCtorEq, ↓reduceIte]
      refine acond_b (fun h2 => ?_) (fun h2 => ?_) <;> (try simp only [decide_eq_true_eq, decide_eq_false_iff_not] at h2) <;> simp (disch := omega) only [Sh.out h2, go_sem, Nat.reduceAdd, Nat.reduceMul, Nat.reduceSub, Nat.reduceLeDiff, Nat.reduceLT, Nat.reduceEqDiff, Nat.reduceBEq, Nat.reduceBNe, Int.reduceNeg, Int.reduceToNat, Int.reduceLT, Int.reduceLE, Int.reduceEq, Int.reduceAdd, Int.reduceMul, Int.reduceSub, Nat.reduceSucc, Nat.reduceGT, Nat.reducePow, Int.reducePow, reduceCtorEq, ↓reduceIte]
      · have hr : allR x S = ([], 0) := by rw [allR, if_neg h0, if_pos (.inr h2)]
        rw [hr]
        exact ⟨_, _, Weak.mk (by simp (disch := omega) only [go_sem, Nat.reduceAdd, Nat.reduceMul, Nat.reduceSub, Nat.reduceLeDiff, Nat.reduceLT, Nat.reduceEqDiff, Nat.reduceBEq, Nat.reduceBNe, Int.reduceNeg, Int.reduceToNat, Int.reduceLT, Int.reduceLE, Int.reduceEq, Int.reduceAdd, Int.reduceMul, Int.reduceSub, Nat.reduceSucc, Nat.reduceGT, Nat.reducePow, Int.reducePow, reduceCtorEq, ↓reduceIte]), true, rfl, rfl⟩
      · have hr : allR x S = if (walk (fun l => nextU x S l x.orders.length) (totU x S x.orders.length) [] []).2 = true then ((walk (fun l => nextU x S l x.orders.length) (totU x S x.orders.length) [] []).1, 0) else ([], 4) := by
          rw [allR, if_neg h0, if_neg (by rintro (h3 | h3); exact h1 (by omega); exact absurd h3 (by simpa using h2))]
        have hpos' := hpos (by omega) (by omega)
        have htl := totU_le x S x.orders.length
        generalize htt : totU x S x.orders.length = T at hr hpos' htl
        refine awp_forC [15] [2, 3, 6, 29] (fun k : Nat => [(30, .p (.int .i64 k))]) (fun k => [instO x, .cells [.p (.int .i64 (S : Nat))], .cells [.p (.int .i64 (totU x S k : Nat))]]) (fun k => k ≤ x.orders.length) (fun k => x.orders.length - k) 0 (by simp) (Weak.mk ?_) ?_
        · simp (disch := omega) only [instO, totU, List.range_zero, List.sum_nil, go_sem, Nat.reduceAdd, Nat.reduceMul, Nat.reduceSub, Nat.reduceLeDiff, Nat.reduceLT, Nat.reduceEqDiff, Nat.reduceBEq, Nat.reduceBNe, Int.reduceNeg, Int.reduceToNat, Int.reduceLT, Int.reduceLE, Int.reduceEq, Int.reduceAdd, Int.reduceMul, Int.reduceSub, Nat.reduceSucc, Nat.reduceGT, Nat.reducePow, Int.reducePow, reduceCtorEq, ↓reduceIte]
        · intro k hk
          have hsu := totU_succ x S k
          have hle := totU_le x S k
          simp (disch := omega) only [instO, go_sem, Nat.reduceAdd, Nat.reduceMul, Nat.reduceSub, Nat.reduceLeDiff, Nat.reduceLT, Nat.reduceEqDiff, Nat.reduceBEq, Nat.reduceBNe, Int.reduceNeg, Int.reduceToNat, Int.reduceLT, Int.reduceLE, Int.reduceEq, Int.reduceAdd, Int.reduceMul, Int.reduceSub, Nat.reduceSucc, Nat.reduceGT, Nat.reducePow, Int.reducePow, reduceCtorEq, ↓reduceIte]
          refine acond_b (fun h3 => ?_) (fun h3 => ?_) <;> (try simp only [decide_eq_true_eq, decide_eq_false_iff_not] at h3) <;> simp (disch := omega) only [Sh.out h3, go_sem, Nat.reduceAdd, Nat.reduceMul, Nat.reduceSub, Nat.reduceLeDiff, Nat.reduceLT, Nat.reduceEqDiff, Nat.reduceBEq, Nat.reduceBNe, Int.reduceNeg, Int.reduceToNat, Int.reduceLT, Int.reduceLE, Int.reduceEq, Int.reduceAdd, Int.reduceMul, Int.reduceSub, Nat.reduceSucc, Nat.reduceGT, Nat.reducePow, Int.reducePow, reduceCtorEq, ↓reduceIte]
          · have hk2 : k < x.orders.length := by omega
            have hvl := visO_len x.orders k
            refine acond_b (fun h4 => ?_) (fun h4 => ?_) <;> (try simp only [decide_eq_true_eq, decide_eq_false_iff_not] at h4) <;> simp (disch := omega) only [Sh.out h4, go_sem, Nat.reduceAdd, Nat.reduceMul, Nat.reduceSub, Nat.reduceLeDiff, Nat.reduceLT, Nat.reduceEqDiff, Nat.reduceBEq, Nat.reduceBNe, Int.reduceNeg, Int.reduceToNat, Int.reduceLT, Int.reduceLE, Int.reduceEq, Int.reduceAdd, Int.reduceMul, Int.reduceSub, Nat.reduceSucc, Nat.reduceGT, Nat.reducePow, Int.reducePow, reduceCtorEq, ↓reduceIte]
            · have hbit : S.testBit k = true := by simpa only [bit_eq1] using h4
              rw [if_pos hbit] at hsu
              refine awp_drawnS 7 mixed (by kernel_rfl) (by kernel_rfl) ?_
              simp (disch := omega) only [go_sem, Nat.reduceAdd, Nat.reduceMul, Nat.reduceSub, Nat.reduceLeDiff, Nat.reduceLT, Nat.reduceEqDiff, Nat.reduceBEq, Nat.reduceBNe, Int.reduceNeg, Int.reduceToNat, Int.reduceLT, Int.reduceLE, Int.reduceEq, Int.reduceAdd, Int.reduceMul, Int.reduceSub, Nat.reduceSucc, Nat.reduceGT, Nat.reducePow, Int.reducePow, reduceCtorEq, ↓reduceIte]
              refine exq_call (visits_c x.orders x.orders_c k hk2 (by omega)) ?_
              simp (disch := omega) only [go_sem, Nat.reduceAdd, Nat.reduceMul, Nat.reduceSub, Nat.reduceLeDiff, Nat.reduceLT, Nat.reduceEqDiff, Nat.reduceBEq, Nat.reduceBNe, Int.reduceNeg, Int.reduceToNat, Int.reduceLT, Int.reduceLE, Int.reduceEq, Int.reduceAdd, Int.reduceMul, Int.reduceSub, Nat.reduceSucc, Nat.reduceGT, Nat.reducePow, Int.reducePow, reduceCtorEq, ↓reduceIte]
              have hsu2 : ((totU x S (k + 1) : Nat) : Int) = ((totU x S k : Nat) : Int) + ((visO x.orders k).length : Int) := by omega
              exact ⟨k + 1, by omega, by omega, Weak.mk (by simp (disch := omega) only [instO, hsu2, go_sem, Nat.reduceAdd, Nat.reduceMul, Nat.reduceSub, Nat.reduceLeDiff, Nat.reduceLT, Nat.reduceEqDiff, Nat.reduceBEq, Nat.reduceBNe, Int.reduceNeg, Int.reduceToNat, Int.reduceLT, Int.reduceLE, Int.reduceEq, Int.reduceAdd, Int.reduceMul, Int.reduceSub, Nat.reduceSucc, Nat.reduceGT, Nat.reducePow, Int.reducePow, reduceCtorEq, ↓reduceIte])⟩
            · have hbit : S.testBit k = false := by
                cases hq : S.testBit k with
                | false => rfl
                | true => exact absurd (by simpa only [bit_eq1] using hq) h4
              rw [hbit] at hsu
              simp only [Bool.false_eq_true, if_false, Nat.add_zero] at hsu
              exact ⟨k + 1, by omega, by omega, Weak.mk (by simp (disch := omega) only [instO, hsu, go_sem, Nat.reduceAdd, Nat.reduceMul, Nat.reduceSub, Nat.reduceLeDiff, Nat.reduceLT, Nat.reduceEqDiff, Nat.reduceBEq, Nat.reduceBNe, Int.reduceNeg, Int.reduceToNat, Int.reduceLT, Int.reduceLE, Int.reduceEq, Int.reduceAdd, Int.reduceMul, Int.reduceSub, Nat.reduceSucc, Nat.reduceGT, Nat.reducePow, Int.reducePow, reduceCtorEq, ↓reduceIte])⟩
          · have hkn : k = x.orders.length := by omega
            subst hkn
            rw [htt]
            refine awp_weak (Weak.nilC (o := 3) (j := 0) 1 rfl rfl (by simp)) ?_
            refine awp_sound [] _ _ _ _ ?_
            simp (disch := omega) only [List.set_cons_succ, List.set_cons_zero, List.cons_append, List.nil_append, go_sem, Nat.reduceAdd, Nat.reduceMul, Nat.reduceSub, Nat.reduceLeDiff, Nat.reduceLT, Nat.reduceEqDiff, Nat.reduceBEq, Nat.reduceBNe, Int.reduceNeg, Int.reduceToNat, Int.reduceLT, Int.reduceLE, Int.reduceEq, Int.reduceAdd, Int.reduceMul, Int.reduceSub, Nat.reduceSucc, Nat.reduceGT, Nat.reducePow, Int.reducePow, reduceCtorEq, ↓reduceIte]
            have hw := walk_c x S T hS ho (by omega) hbl (fun p hp => ⟨(hv p hp).1, (hv p hp).2.1⟩) T [] true [] (by simp) (fun _ => hpos') (by simp)
            refine ACalls.useH hw ?_
            generalize walk (fun l => nextU x S l x.orders.length) T [] [] = W at hr ⊢
            simp (disch := omega) only [HA, instO, go_sem, Nat.reduceAdd, Nat.reduceMul, Nat.reduceSub, Nat.reduceLeDiff, Nat.reduceLT, Nat.reduceEqDiff, Nat.reduceBEq, Nat.reduceBNe, Int.reduceNeg, Int.reduceToNat, Int.reduceLT, Int.reduceLE, Int.reduceEq, Int.reduceAdd, Int.reduceMul, Int.reduceSub, Nat.reduceSucc, Nat.reduceGT, Nat.reducePow, Int.reducePow, reduceCtorEq, ↓reduceIte]
            refine acond_b (fun h4 => ?_) (fun h4 => ?_) <;> (try simp only [decide_eq_true_eq, decide_eq_false_iff_not] at h4) <;> simp (disch := omega) only [Sh.out h4, go_sem, Nat.reduceAdd, Nat.reduceMul, Nat.reduceSub, Nat.reduceLeDiff, Nat.reduceLT, Nat.reduceEqDiff, Nat.reduceBEq, Nat.reduceBNe, Int.reduceNeg, Int.reduceToNat, Int.reduceLT, Int.reduceLE, Int.reduceEq, Int.reduceAdd, Int.reduceMul, Int.reduceSub, Nat.reduceSucc, Nat.reduceGT, Nat.reducePow, Int.reducePow, reduceCtorEq, ↓reduceIte]
            · have h5 : W.2 = false := by simpa using h4
              rw [hr, if_neg (by rw [h5]; simp)]
              exact ⟨_, _, Weak.mk (by simp (disch := omega) only [go_sem, Nat.reduceAdd, Nat.reduceMul, Nat.reduceSub, Nat.reduceLeDiff, Nat.reduceLT, Nat.reduceEqDiff, Nat.reduceBEq, Nat.reduceBNe, Int.reduceNeg, Int.reduceToNat, Int.reduceLT, Int.reduceLE, Int.reduceEq, Int.reduceAdd, Int.reduceMul, Int.reduceSub, Nat.reduceSucc, Nat.reduceGT, Nat.reducePow, Int.reducePow, reduceCtorEq, ↓reduceIte]), true, rfl, rfl⟩
            · have h5 : W.2 = true := by simpa using h4
              rw [hr, if_pos h5]
              refine ⟨_, _, weak_tup2 (Weak.mk ?_), false, rfl, rfl⟩
              simp (disch := omega) only [go_sem, Nat.reduceAdd, Nat.reduceMul, Nat.reduceSub, Nat.reduceLeDiff, Nat.reduceLT, Nat.reduceEqDiff, Nat.reduceBEq, Nat.reduceBNe, Int.reduceNeg, Int.reduceToNat, Int.reduceLT, Int.reduceLE, Int.reduceEq, Int.reduceAdd, Int.reduceMul, Int.reduceSub, Nat.reduceSucc, Nat.reduceGT, Nat.reducePow, Int.reducePow, reduceCtorEq, ↓reduceIte]
end Go.Proofs.Ytlbhefiehkmhjaa.K
