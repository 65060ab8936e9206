/- Contracts: the specification of sequences: All, Check. -/
import Derived.Test.YtlbhefiehkmhjaaQ12
set_option linter.unusedVariables false
set_option linter.unusedSimpArgs false
namespace Go.Proofs.Ytlbhefiehkmhjaa.K
open Go Go.AM Go.Proofs
set_option maxRecDepth 8000
set_option maxHeartbeats 8000000

theorem bits_zero {S n : Nat} (hS : S < 9223372036854775808) (h : ∀ j, j < 63 → S.testBit j = true → j < n) : S / pw n = 0 := by
  refine Nat.div_eq_of_lt ?_
  refine Nat.lt_pow_two_of_testBit S fun i hi => ?_
  rcases Nat.lt_or_ge i 63 with h2 | h2
  · cases hb : S.testBit i with
    | false => rfl
    | true => have := h i h2 hb; omega
  · exact Nat.testBit_lt_two_pow (Nat.lt_of_lt_of_le hS (Nat.pow_le_pow_right (by omega) h2 : 2 ^ 63 ≤ 2 ^ i))

theorem rall_c (x : Inst) (S : Nat) (hS : S < 9223372036854775808) (ho : x.orders.length ≤ 60) (hap : x.apart.length ≤ 1048576) (hbl : x.before.length ≤ 1048576) (hp : Plc x) (hv : Val x.orders.length x.before) (hne : Vne x) :
    ACalls Try.prog 19 [.p (eInst x), .p (.int .i64 (S : Nat))] [] fun y H' => ∃ cl : Bool, y = .tup [.p (.list cl ((allR x S).1.map eL)), .p (.int .i64 (allR x S).2)] ∧ H' = [] := by
  refine acalls_weak [] (fn := Try.f19) Try.func19 rfl isF19 ?_
  simp (disch := omega) only [Try.f19, go_sem, Nat.reduceAdd, Nat.reduceMul, Nat.reduceSub, Nat.reduceLeDiff, Nat.reduceLT, Nat.reduceEqDiff, Nat.reduceBEq, Nat.reduceBNe, Int.reduceNeg, Int.reduceToNat, Int.reduceLT, Int.reduceLE, Int.reduceEq, Int.reduceAdd, Int.reduceMul, Int.reduceSub, Nat.reduceSucc, Nat.reduceGT, Nat.reducePow, Int.reducePow, reduceCtorEq, ↓reduceIte]
  refine acond_b (fun hn0 => ?_) (fun hn0 => ?_) <;> (try simp only [decide_eq_true_eq, decide_eq_false_iff_not] at hn0) <;> simp (disch := omega) only [Sh.out hn0, go_sem, Nat.reduceAdd, Nat.reduceMul, Nat.reduceSub, Nat.reduceLeDiff, Nat.reduceLT, Nat.reduceEqDiff, Nat.reduceBEq, Nat.reduceBNe, Int.reduceNeg, Int.reduceToNat, Int.reduceLT, Int.reduceLE, Int.reduceEq, Int.reduceAdd, Int.reduceMul, Int.reduceSub, Nat.reduceSucc, Nat.reduceGT, Nat.reducePow, Int.reducePow, reduceCtorEq, ↓reduceIte]
  · omega
  · refine awp_for [1, 2] (fun k : Nat => [(6, .p (.int .i64 k))]) (fun _ => [instO x]) (fun k => k ≤ 63 ∧ ∀ j, j < k → S.testBit j = true → j < x.orders.length) (fun k => 63 - k) 0 ⟨by simp, by simp⟩ (Weak.mk ?_) ?_
    · simp (disch := omega) only [instO, go_sem, Nat.reduceAdd, Nat.reduceMul, Nat.reduceSub, Nat.reduceLeDiff, Nat.reduceLT, Nat.reduceEqDiff, Nat.reduceBEq, Nat.reduceBNe, Int.reduceNeg, Int.reduceToNat, Int.reduceLT, Int.reduceLE, Int.reduceEq, Int.reduceAdd, Int.reduceMul, Int.reduceSub, Nat.reduceSucc, Nat.reduceGT, Nat.reducePow, Int.reducePow, reduceCtorEq, ↓reduceIte]
    · rintro k ⟨hk, hno⟩
      simp (disch := omega) only [instO, go_sem, Nat.reduceAdd, Nat.reduceMul, Nat.reduceSub, Nat.reduceLeDiff, Nat.reduceLT, Nat.reduceEqDiff, Nat.reduceBEq, Nat.reduceBNe, Int.reduceNeg, Int.reduceToNat, Int.reduceLT, Int.reduceLE, Int.reduceEq, Int.reduceAdd, Int.reduceMul, Int.reduceSub, Nat.reduceSucc, Nat.reduceGT, Nat.reducePow, Int.reducePow, reduceCtorEq, ↓reduceIte]
      refine acond_b (fun h => ?_) (fun h => ?_) <;> (try simp only [decide_eq_true_eq, decide_eq_false_iff_not] at h) <;> simp (disch := omega) only [Sh.out h, go_sem, Nat.reduceAdd, Nat.reduceMul, Nat.reduceSub, Nat.reduceLeDiff, Nat.reduceLT, Nat.reduceEqDiff, Nat.reduceBEq, Nat.reduceBNe, Int.reduceNeg, Int.reduceToNat, Int.reduceLT, Int.reduceLE, Int.reduceEq, Int.reduceAdd, Int.reduceMul, Int.reduceSub, Nat.reduceSucc, Nat.reduceGT, Nat.reducePow, Int.reducePow, reduceCtorEq, ↓reduceIte]
      · have hk2 : k < 63 := by omega
        refine (rhas16_c S (k : Int) hS).use ?_
        simp (disch := omega) only [go_sem, Nat.reduceAdd, Nat.reduceMul, Nat.reduceSub, Nat.reduceLeDiff, Nat.reduceLT, Nat.reduceEqDiff, Nat.reduceBEq, Nat.reduceBNe, Int.reduceNeg, Int.reduceToNat, Int.reduceLT, Int.reduceLE, Int.reduceEq, Int.reduceAdd, Int.reduceMul, Int.reduceSub, Nat.reduceSucc, Nat.reduceGT, Nat.reducePow, Int.reducePow, reduceCtorEq, ↓reduceIte]
        rw [nHas_nat (by omega)]
        refine aguard_t (fun h2 => ?_) (fun h2 => ?_) <;> (try simp only [decide_eq_true_eq, decide_eq_false_iff_not] at h2) <;> simp (disch := omega) only [Sh.out h2, go_sem, Nat.reduceAdd, Nat.reduceMul, Nat.reduceSub, Nat.reduceLeDiff, Nat.reduceLT, Nat.reduceEqDiff, Nat.reduceBEq, Nat.reduceBNe, Int.reduceNeg, Int.reduceToNat, Int.reduceLT, Int.reduceLE, Int.reduceEq, Int.reduceAdd, Int.reduceMul, Int.reduceSub, Nat.reduceSucc, Nat.reduceGT, Nat.reducePow, Int.reducePow, reduceCtorEq, ↓reduceIte]
        · refine acond_b (fun h3 => ?_) (fun h3 => ?_) <;> (try simp only [decide_eq_true_eq, decide_eq_false_iff_not] at h3) <;> simp (disch := omega) only [Sh.out h3, go_sem, Nat.reduceAdd, Nat.reduceMul, Nat.reduceSub, Nat.reduceLeDiff, Nat.reduceLT, Nat.reduceEqDiff, Nat.reduceBEq, Nat.reduceBNe, Int.reduceNeg, Int.reduceToNat, Int.reduceLT, Int.reduceLE, Int.reduceEq, Int.reduceAdd, Int.reduceMul, Int.reduceSub, Nat.reduceSucc, Nat.reduceGT, Nat.reducePow, Int.reducePow, reduceCtorEq, ↓reduceIte]
          · have e : S / pw x.orders.length ≠ 0 := fun e => by have := bit_lt e h2; omega
            rw [allR, if_pos e]
            exact ⟨_, _, Weak.mk (by simp (disch := omega) only [go_sem, Nat.reduceAdd, Nat.reduceMul, Nat.reduceSub, Nat.reduceLeDiff, Nat.reduceLT, Nat.reduceEqDiff, Nat.reduceBEq, Nat.reduceBNe, Int.reduceNeg, Int.reduceToNat, Int.reduceLT, Int.reduceLE, Int.reduceEq, Int.reduceAdd, Int.reduceMul, Int.reduceSub, Nat.reduceSucc, Nat.reduceGT, Nat.reducePow, Int.reducePow, reduceCtorEq, ↓reduceIte]), true, rfl, rfl⟩
          · exact ⟨k + 1, ⟨by omega, upto_iff.2 ⟨hno, fun _ => by omega⟩⟩, by omega, Weak.mk (by simp (disch := omega) only [instO, go_sem, Nat.reduceAdd, Nat.reduceMul, Nat.reduceSub, Nat.reduceLeDiff, Nat.reduceLT, Nat.reduceEqDiff, Nat.reduceBEq, Nat.reduceBNe, Int.reduceNeg, Int.reduceToNat, Int.reduceLT, Int.reduceLE, Int.reduceEq, Int.reduceAdd, Int.reduceMul, Int.reduceSub, Nat.reduceSucc, Nat.reduceGT, Nat.reducePow, Int.reducePow, reduceCtorEq, ↓reduceIte])⟩
        · exact ⟨k + 1, ⟨by omega, upto_iff.2 ⟨hno, fun e => by rw [h2] at e; cases e⟩⟩, by omega, Weak.mk (by simp (disch := omega) only [instO, go_sem, Nat.reduceAdd, Nat.reduceMul, Nat.reduceSub, Nat.reduceLeDiff, Nat.reduceLT, Nat.reduceEqDiff, Nat.reduceBEq, Nat.reduceBNe, Int.reduceNeg, Int.reduceToNat, Int.reduceLT, Int.reduceLE, Int.reduceEq, Int.reduceAdd, Int.reduceMul, Int.reduceSub, Nat.reduceSucc, Nat.reduceGT, Nat.reducePow, Int.reducePow, reduceCtorEq, ↓reduceIte])⟩
      · have hk3 : k = 63 := by omega
        subst hk3
        have hSn := bits_zero hS hno
        refine (possible_c x S hS hSn ho hap hbl hp hv hne).use ?_
        simp (disch := omega) only [go_sem, Nat.reduceAdd, Nat.reduceMul, Nat.reduceSub, Nat.reduceLeDiff, Nat.reduceLT, Nat.reduceEqDiff, Nat.reduceBEq, Nat.reduceBNe, Int.reduceNeg, Int.reduceToNat, Int.reduceLT, Int.reduceLE, Int.reduceEq, Int.reduceAdd, Int.reduceMul, Int.reduceSub, Nat.reduceSucc, Nat.reduceGT, Nat.reducePow, Int.reducePow, reduceCtorEq, ↓reduceIte]
        refine acond_b (fun h2 => ?_) (fun h2 => ?_) <;> (try simp only [decide_eq_true_eq, decide_eq_false_iff_not] at h2) <;> simp (disch := omega) only [Sh.out h2, go_sem, Nat.reduceAdd, Nat.reduceMul, Nat.reduceSub, Nat.reduceLeDiff, Nat.reduceLT, Nat.reduceEqDiff, Nat.reduceBEq, Nat.reduceBNe, Int.reduceNeg, Int.reduceToNat, Int.reduceLT, Int.reduceLE, Int.reduceEq, Int.reduceAdd, Int.reduceMul, Int.reduceSub, Nat.reduceSucc, Nat.reduceGT, Nat.reducePow, Int.reducePow, reduceCtorEq, ↓reduceIte]
        · have e : S = 0 ∨ forbB x S = true := by
            by_cases h0 : S = 0
            · exact .inl h0
            · right; simpa [h0] using h2
          rw [allR, if_neg (by omega), if_pos e]
          exact ⟨_, _, Weak.mk (by simp (disch := omega) only [go_sem, Nat.reduceAdd, Nat.reduceMul, Nat.reduceSub, Nat.reduceLeDiff, Nat.reduceLT, Nat.reduceEqDiff, Nat.reduceBEq, Nat.reduceBNe, Int.reduceNeg, Int.reduceToNat, Int.reduceLT, Int.reduceLE, Int.reduceEq, Int.reduceAdd, Int.reduceMul, Int.reduceSub, Nat.reduceSucc, Nat.reduceGT, Nat.reducePow, Int.reducePow, reduceCtorEq, ↓reduceIte]), true, rfl, rfl⟩
        · have e : S ≠ 0 ∧ forbB x S = false := by simpa using h2
          have ha := (forb_iff ho hSn hv).1 e.2
          have hw := walk_ext (nx := fun l => nextU x S l x.orders.length) (totU x S x.orders.length) [] [] (by simp)
          have hel := ext_len (nx := fun l => nextU x S l x.orders.length) (totU x S x.orders.length) [] [] (by simp)
          have hr : allR x S = if (walk (fun l => nextU x S l x.orders.length) (totU x S x.orders.length) [] []).2 = true then ((walk (fun l => nextU x S l x.orders.length) (totU x S x.orders.length) [] []).1, 0) else ([], 4) := by
            rw [allR, if_neg (by omega), if_neg (by simp [e.1, e.2])]
          have hc := extended_c x S hS ho hbl hp hv ha (totU x S x.orders.length) [] true [] (by simp) (fun _ => tot_pos hne hSn e.1) (by simp) .nil
          generalize ext (fun l => nextU x S l x.orders.length) (totU x S x.orders.length) [] [] = E at hw hel hc
          generalize walk (fun l => nextU x S l x.orders.length) (totU x S x.orders.length) [] [] = W at hw hr
          refine ACalls.weakA (Weak.nil 3 1 (by rfl) (Nat.le_refl _)) (ACalls.useH hc ?_)
          simp (disch := omega) only [instO, go_sem, Nat.reduceAdd, Nat.reduceMul, Nat.reduceSub, Nat.reduceLeDiff, Nat.reduceLT, Nat.reduceEqDiff, Nat.reduceBEq, Nat.reduceBNe, Int.reduceNeg, Int.reduceToNat, Int.reduceLT, Int.reduceLE, Int.reduceEq, Int.reduceAdd, Int.reduceMul, Int.reduceSub, Nat.reduceSucc, Nat.reduceGT, Nat.reducePow, Int.reducePow, reduceCtorEq, ↓reduceIte]
          refine acond_b (fun h4 => ?_) (fun h4 => ?_) <;> (try simp only [decide_eq_true_eq, decide_eq_false_iff_not] at h4) <;> simp (disch := omega) only [Sh.out h4, go_sem, Nat.reduceAdd, Nat.reduceMul, Nat.reduceSub, Nat.reduceLeDiff, Nat.reduceLT, Nat.reduceEqDiff, Nat.reduceBEq, Nat.reduceBNe, Int.reduceNeg, Int.reduceToNat, Int.reduceLT, Int.reduceLE, Int.reduceEq, Int.reduceAdd, Int.reduceMul, Int.reduceSub, Nat.reduceSucc, Nat.reduceGT, Nat.reducePow, Int.reducePow, reduceCtorEq, ↓reduceIte]
          · have h5 : W.2 = false := by
              rcases hw with ⟨_, _, h5⟩ | ⟨h5, _⟩
              · omega
              · exact h5
            rw [hr, if_neg (by rw [h5]; simp)]
            exact ⟨_, _, Weak.mk (by simp (disch := omega) only [go_sem, Nat.reduceAdd, Nat.reduceMul, Nat.reduceSub, Nat.reduceLeDiff, Nat.reduceLT, Nat.reduceEqDiff, Nat.reduceBEq, Nat.reduceBNe, Int.reduceNeg, Int.reduceToNat, Int.reduceLT, Int.reduceLE, Int.reduceEq, Int.reduceAdd, Int.reduceMul, Int.reduceSub, Nat.reduceSucc, Nat.reduceGT, Nat.reducePow, Int.reducePow, reduceCtorEq, ↓reduceIte]), true, rfl, rfl⟩
          · have h5 : W.2 = true ∧ E = W.1 := by
              rcases hw with ⟨h5, h6, _⟩ | ⟨_, h5⟩
              · exact ⟨h5, h6⟩
              · omega
            rw [hr, if_pos h5.1, ← h5.2]
            exact ⟨_, _, weak_tup2 (Weak.mk (by simp (disch := omega) only [go_sem, Nat.reduceAdd, Nat.reduceMul, Nat.reduceSub, Nat.reduceLeDiff, Nat.reduceLT, Nat.reduceEqDiff, Nat.reduceBEq, Nat.reduceBNe, Int.reduceNeg, Int.reduceToNat, Int.reduceLT, Int.reduceLE, Int.reduceEq, Int.reduceAdd, Int.reduceMul, Int.reduceSub, Nat.reduceSucc, Nat.reduceGT, Nat.reducePow, Int.reducePow, reduceCtorEq, ↓reduceIte])), false, rfl, rfl⟩

/-- the specification's check -/
def rchk (x : Inst) (l : List Vis) : Int :=
  if l.any (outB x) = true then 2
  else if l.length = 0 then 2
  else if (l.any fun v => (nth x.orders v.order.toNat).off) = true then 9
  else if ((List.range l.length).any fun i => decide (vIx l (nth l i) ≠ (i : Int))) = true then 6
  else if l.all (pairB x.orders l) = false then 19
  else if apB x (ordS l) = true then 20
  else if x.before.all (rbefB (ordS l) l) = false then 21
  else 0
theorem rcheck16_c (x : Inst) (r : Rte) (ho : x.orders.length ≤ 60) (hl : r.visits.length ≤ 1048576) (hap : x.apart.length ≤ 1048576) (hbe : x.before.length ≤ 1048576) (hp : Plc x) :
    ACalls Try.prog 17 [.p (eInst x), .p (eRte r)] [] fun y H' => y = .p (.int .i64 (rchk x r.visits)) ∧ H' = [] := by
  refine acalls_pure (fn := Try.f17) Try.func17 rfl isF17 ?_
  simp (disch := omega) only [Try.f17, go_sem, Nat.reduceAdd, Nat.reduceMul, Nat.reduceSub, Nat.reduceLeDiff, Nat.reduceLT, Nat.reduceEqDiff, Nat.reduceBEq, Nat.reduceBNe, Int.reduceNeg, Int.reduceToNat, Int.reduceLT, Int.reduceLE, Int.reduceEq, Int.reduceAdd, Int.reduceMul, Int.reduceSub, Nat.reduceSucc, Nat.reduceGT, Nat.reducePow, Int.reducePow, reduceCtorEq, ↓reduceIte]
  refine awp_for [2, 3, 5] (fun k : Nat => [(6, .p (.int .i64 k))]) (fun _ => [instO x, rteO r]) (fun k => k ≤ r.visits.length ∧ ∀ j, j < k → outB x (nth r.visits j) = false) (fun k => r.visits.length - k) 0 (by simp) (Weak.mk ?_) ?_
  · simp (disch := omega) only [instO, rteO, go_sem, Nat.reduceAdd, Nat.reduceMul, Nat.reduceSub, Nat.reduceLeDiff, Nat.reduceLT, Nat.reduceEqDiff, Nat.reduceBEq, Nat.reduceBNe, Int.reduceNeg, Int.reduceToNat, Int.reduceLT, Int.reduceLE, Int.reduceEq, Int.reduceAdd, Int.reduceMul, Int.reduceSub, Nat.reduceSucc, Nat.reduceGT, Nat.reducePow, Int.reducePow, reduceCtorEq, ↓reduceIte]
  · rintro k ⟨hk, hno⟩
    simp (disch := omega) only [instO, rteO, go_sem, Nat.reduceAdd, Nat.reduceMul, Nat.reduceSub, Nat.reduceLeDiff, Nat.reduceLT, Nat.reduceEqDiff, Nat.reduceBEq, Nat.reduceBNe, Int.reduceNeg, Int.reduceToNat, Int.reduceLT, Int.reduceLE, Int.reduceEq, Int.reduceAdd, Int.reduceMul, Int.reduceSub, Nat.reduceSucc, Nat.reduceGT, Nat.reducePow, Int.reducePow, reduceCtorEq, ↓reduceIte]
    refine acond_b (fun h => ?_) (fun h => ?_) <;> (try simp only [decide_eq_true_eq, decide_eq_false_iff_not] at h) <;> simp (disch := omega) only [Sh.out h, go_sem, Nat.reduceAdd, Nat.reduceMul, Nat.reduceSub, Nat.reduceLeDiff, Nat.reduceLT, Nat.reduceEqDiff, Nat.reduceBEq, Nat.reduceBNe, Int.reduceNeg, Int.reduceToNat, Int.reduceLT, Int.reduceLE, Int.reduceEq, Int.reduceAdd, Int.reduceMul, Int.reduceSub, Nat.reduceSucc, Nat.reduceGT, Nat.reducePow, Int.reducePow, reduceCtorEq, ↓reduceIte]
    · have hk2 : k < r.visits.length := by omega
      refine awp_drawnA mixed (by kernel_rfl) (by kernel_rfl) ?_
      simp (disch := omega) only [go_sem, Nat.reduceAdd, Nat.reduceMul, Nat.reduceSub, Nat.reduceLeDiff, Nat.reduceLT, Nat.reduceEqDiff, Nat.reduceBEq, Nat.reduceBNe, Int.reduceNeg, Int.reduceToNat, Int.reduceLT, Int.reduceLE, Int.reduceEq, Int.reduceAdd, Int.reduceMul, Int.reduceSub, Nat.reduceSucc, Nat.reduceGT, Nat.reducePow, Int.reducePow, reduceCtorEq, ↓reduceIte]
      refine aguard_f (fun h2 => ?_) (fun h2 => ?_) <;> (try simp only [decide_eq_true_eq, decide_eq_false_iff_not] at h2) <;> simp (disch := omega) only [Sh.out h2, go_sem, Nat.reduceAdd, Nat.reduceMul, Nat.reduceSub, Nat.reduceLeDiff, Nat.reduceLT, Nat.reduceEqDiff, Nat.reduceBEq, Nat.reduceBNe, Int.reduceNeg, Int.reduceToNat, Int.reduceLT, Int.reduceLE, Int.reduceEq, Int.reduceAdd, Int.reduceMul, Int.reduceSub, Nat.reduceSucc, Nat.reduceGT, Nat.reducePow, Int.reducePow, reduceCtorEq, ↓reduceIte]
      · have : outB x (nth r.visits k) = true := by simp [outB]; omega
        rw [rchk, if_pos (any_yes hk2 this)]
      · refine acond_b (fun h3 => ?_) (fun h3 => ?_) <;> (try simp only [decide_eq_true_eq, decide_eq_false_iff_not] at h3) <;> simp (disch := omega) only [Sh.out h3, go_sem, Nat.reduceAdd, Nat.reduceMul, Nat.reduceSub, Nat.reduceLeDiff, Nat.reduceLT, Nat.reduceEqDiff, Nat.reduceBEq, Nat.reduceBNe, Int.reduceNeg, Int.reduceToNat, Int.reduceLT, Int.reduceLE, Int.reduceEq, Int.reduceAdd, Int.reduceMul, Int.reduceSub, Nat.reduceSucc, Nat.reduceGT, Nat.reducePow, Int.reducePow, reduceCtorEq, ↓reduceIte]
        · have : outB x (nth r.visits k) = true := by simp [outB]; omega
          rw [rchk, if_pos (any_yes hk2 this)]
        · exact ⟨k + 1, ⟨by omega, upto_iff.2 ⟨hno, by simp [outB]; omega⟩⟩, by omega, Weak.mk (by simp (disch := omega) only [instO, rteO, go_sem, Nat.reduceAdd, Nat.reduceMul, Nat.reduceSub, Nat.reduceLeDiff, Nat.reduceLT, Nat.reduceEqDiff, Nat.reduceBEq, Nat.reduceBNe, Int.reduceNeg, Int.reduceToNat, Int.reduceLT, Int.reduceLE, Int.reduceEq, Int.reduceAdd, Int.reduceMul, Int.reduceSub, Nat.reduceSucc, Nat.reduceGT, Nat.reducePow, Int.reducePow, reduceCtorEq, ↓reduceIte])⟩
    · have hkl : k = r.visits.length := by omega
      subst hkl
      have hr1 : rchk x r.visits = if r.visits.length = 0 then 2 else if (r.visits.any fun v => (nth x.orders v.order.toNat).off) = true then 9 else if ((List.range r.visits.length).any fun i => decide (vIx r.visits (nth r.visits i) ≠ (i : Int))) = true then 6 else if r.visits.all (pairB x.orders r.visits) = false then 19 else if apB x (ordS r.visits) = true then 20 else if x.before.all (rbefB (ordS r.visits) r.visits) = false then 21 else 0 := by
        rw [rchk, if_neg (by rw [any_no hno]; simp)]
      have hin : ∀ j, j < r.visits.length → 0 ≤ (nth r.visits j).order ∧ (nth r.visits j).order < x.orders.length := fun j hj => by
        have := hno j hj
        simpa [outB] using this
      have hmem : ∀ v ∈ r.visits, 0 ≤ v.order ∧ v.order < x.orders.length := fun v hv => by
        obtain ⟨j, hj, rfl⟩ := List.mem_iff_getElem.1 hv
        rw [← nth_get hj]; exact hin j hj
      have hord : ordR r.visits = (((ordS r.visits : Nat) : Int), 0) := by
        rw [ordR, if_pos]
        rw [List.all_eq_true]
        intro v hv
        have := hmem v hv
        simp [inS]; omega
      have hlt : ordS r.visits < 9223372036854775808 := by
        have := ordS_lt r.visits.length (l := r.visits) (Nat.le_refl _) (fun v hv => by
          rw [List.take_length] at hv
          have := hmem v hv
          simp [inS]; omega)
        rwa [List.take_length] at this
      have hoc := rorders_c r hl
      rw [hord] at hoc
      refine useT hoc ?_
      simp (disch := omega) only [instO, rteO, go_sem, Nat.reduceAdd, Nat.reduceMul, Nat.reduceSub, Nat.reduceLeDiff, Nat.reduceLT, Nat.reduceEqDiff, Nat.reduceBEq, Nat.reduceBNe, Int.reduceNeg, Int.reduceToNat, Int.reduceLT, Int.reduceLE, Int.reduceEq, Int.reduceAdd, Int.reduceMul, Int.reduceSub, Nat.reduceSucc, Nat.reduceGT, Nat.reducePow, Int.reducePow, reduceCtorEq, ↓reduceIte]
      refine acond_b (fun h3 => ?_) (fun h3 => ?_) <;> (try simp only [decide_eq_true_eq, decide_eq_false_iff_not] at h3) <;> simp (disch := omega) only [Sh.out h3, go_sem, Nat.reduceAdd, Nat.reduceMul, Nat.reduceSub, Nat.reduceLeDiff, Nat.reduceLT, Nat.reduceEqDiff, Nat.reduceBEq, Nat.reduceBNe, Int.reduceNeg, Int.reduceToNat, Int.reduceLT, Int.reduceLE, Int.reduceEq, Int.reduceAdd, Int.reduceMul, Int.reduceSub, Nat.reduceSucc, Nat.reduceGT, Nat.reducePow, Int.reducePow, reduceCtorEq, ↓reduceIte]
      · rw [hr1, if_pos (by omega)]
      · rw [hr1, if_neg (by omega)]
        clear hno hr1 h3 h hk
        refine awp_for [2, 5, 7] (fun k : Nat => [(9, .p (.int .i64 k))]) (fun _ => [instO x, rteO r]) (fun k => k ≤ r.visits.length ∧ ∀ j, j < k → (nth x.orders (nth r.visits j).order.toNat).off = false) (fun k => r.visits.length - k) 0 (by simp) (Weak.mk ?_) ?_
        · simp (disch := omega) only [instO, rteO, go_sem, Nat.reduceAdd, Nat.reduceMul, Nat.reduceSub, Nat.reduceLeDiff, Nat.reduceLT, Nat.reduceEqDiff, Nat.reduceBEq, Nat.reduceBNe, Int.reduceNeg, Int.reduceToNat, Int.reduceLT, Int.reduceLE, Int.reduceEq, Int.reduceAdd, Int.reduceMul, Int.reduceSub, Nat.reduceSucc, Nat.reduceGT, Nat.reducePow, Int.reducePow, reduceCtorEq, ↓reduceIte]
        · rintro k ⟨hk, hno⟩
          simp (disch := omega) only [instO, rteO, go_sem, Nat.reduceAdd, Nat.reduceMul, Nat.reduceSub, Nat.reduceLeDiff, Nat.reduceLT, Nat.reduceEqDiff, Nat.reduceBEq, Nat.reduceBNe, Int.reduceNeg, Int.reduceToNat, Int.reduceLT, Int.reduceLE, Int.reduceEq, Int.reduceAdd, Int.reduceMul, Int.reduceSub, Nat.reduceSucc, Nat.reduceGT, Nat.reducePow, Int.reducePow, reduceCtorEq, ↓reduceIte]
          refine acond_b (fun h => ?_) (fun h => ?_) <;> (try simp only [decide_eq_true_eq, decide_eq_false_iff_not] at h) <;> simp (disch := omega) only [Sh.out h, go_sem, Nat.reduceAdd, Nat.reduceMul, Nat.reduceSub, Nat.reduceLeDiff, Nat.reduceLT, Nat.reduceEqDiff, Nat.reduceBEq, Nat.reduceBNe, Int.reduceNeg, Int.reduceToNat, Int.reduceLT, Int.reduceLE, Int.reduceEq, Int.reduceAdd, Int.reduceMul, Int.reduceSub, Nat.reduceSucc, Nat.reduceGT, Nat.reducePow, Int.reducePow, reduceCtorEq, ↓reduceIte]
          · have hk2 : k < r.visits.length := by omega
            obtain ⟨i1, i2⟩ := hin k hk2
            have i3 : (nth r.visits k).order.toNat < x.orders.length := by omega
            refine awp_drawnA mixed (by kernel_rfl) (by kernel_rfl) ?_
            simp (disch := omega) only [elt_map, go_sem, Nat.reduceAdd, Nat.reduceMul, Nat.reduceSub, Nat.reduceLeDiff, Nat.reduceLT, Nat.reduceEqDiff, Nat.reduceBEq, Nat.reduceBNe, Int.reduceNeg, Int.reduceToNat, Int.reduceLT, Int.reduceLE, Int.reduceEq, Int.reduceAdd, Int.reduceMul, Int.reduceSub, Nat.reduceSucc, Nat.reduceGT, Nat.reducePow, Int.reducePow, reduceCtorEq, ↓reduceIte]
            refine acond_b (fun h4 => ?_) (fun h4 => ?_) <;> (try simp only [decide_eq_true_eq, decide_eq_false_iff_not] at h4) <;> simp (disch := omega) only [Sh.out h4, go_sem, Nat.reduceAdd, Nat.reduceMul, Nat.reduceSub, Nat.reduceLeDiff, Nat.reduceLT, Nat.reduceEqDiff, Nat.reduceBEq, Nat.reduceBNe, Int.reduceNeg, Int.reduceToNat, Int.reduceLT, Int.reduceLE, Int.reduceEq, Int.reduceAdd, Int.reduceMul, Int.reduceSub, Nat.reduceSucc, Nat.reduceGT, Nat.reducePow, Int.reducePow, reduceCtorEq, ↓reduceIte]
            · rw [if_pos (any_yes hk2 h4)]
            · exact ⟨k + 1, ⟨by omega, upto_iff.2 ⟨hno, h4⟩⟩, by omega, Weak.mk (by simp (disch := omega) only [instO, rteO, go_sem, Nat.reduceAdd, Nat.reduceMul, Nat.reduceSub, Nat.reduceLeDiff, Nat.reduceLT, Nat.reduceEqDiff, Nat.reduceBEq, Nat.reduceBNe, Int.reduceNeg, Int.reduceToNat, Int.reduceLT, Int.reduceLE, Int.reduceEq, Int.reduceAdd, Int.reduceMul, Int.reduceSub, Nat.reduceSucc, Nat.reduceGT, Nat.reducePow, Int.reducePow, reduceCtorEq, ↓reduceIte])⟩
          · have hkl : k = r.visits.length := by omega
            subst hkl
            have e9 : (r.visits.any fun v => (nth x.orders v.order.toNat).off) = false := any_no hno
            rw [e9, if_neg (by simp)]
            clear hno h hk
            refine awp_for [2, 5, 7] (fun k : Nat => [(10, .p (.int .i64 k))]) (fun _ => [instO x, rteO r]) (fun k => k ≤ r.visits.length ∧ ∀ j, j < k → vIx r.visits (nth r.visits j) = (j : Int)) (fun k => r.visits.length - k) 0 (by simp) (Weak.mk ?_) ?_
            · simp (disch := omega) only [instO, rteO, go_sem, Nat.reduceAdd, Nat.reduceMul, Nat.reduceSub, Nat.reduceLeDiff, Nat.reduceLT, Nat.reduceEqDiff, Nat.reduceBEq, Nat.reduceBNe, Int.reduceNeg, Int.reduceToNat, Int.reduceLT, Int.reduceLE, Int.reduceEq, Int.reduceAdd, Int.reduceMul, Int.reduceSub, Nat.reduceSucc, Nat.reduceGT, Nat.reducePow, Int.reducePow, reduceCtorEq, ↓reduceIte]
            · rintro k ⟨hk, hno⟩
              simp (disch := omega) only [instO, rteO, go_sem, Nat.reduceAdd, Nat.reduceMul, Nat.reduceSub, Nat.reduceLeDiff, Nat.reduceLT, Nat.reduceEqDiff, Nat.reduceBEq, Nat.reduceBNe, Int.reduceNeg, Int.reduceToNat, Int.reduceLT, Int.reduceLE, Int.reduceEq, Int.reduceAdd, Int.reduceMul, Int.reduceSub, Nat.reduceSucc, Nat.reduceGT, Nat.reducePow, Int.reducePow, reduceCtorEq, ↓reduceIte]
              refine acond_b (fun h => ?_) (fun h => ?_) <;> (try simp only [decide_eq_true_eq, decide_eq_false_iff_not] at h) <;> simp (disch := omega) only [Sh.out h, go_sem, Nat.reduceAdd, Nat.reduceMul, Nat.reduceSub, Nat.reduceLeDiff, Nat.reduceLT, Nat.reduceEqDiff, Nat.reduceBEq, Nat.reduceBNe, Int.reduceNeg, Int.reduceToNat, Int.reduceLT, Int.reduceLE, Int.reduceEq, Int.reduceAdd, Int.reduceMul, Int.reduceSub, Nat.reduceSucc, Nat.reduceGT, Nat.reducePow, Int.reducePow, reduceCtorEq, ↓reduceIte]
              · have hk2 : k < r.visits.length := by omega
                refine (rindex_c r.visits r.visits_c (nth r.visits k) hl).use ?_
                simp (disch := omega) only [go_sem, Nat.reduceAdd, Nat.reduceMul, Nat.reduceSub, Nat.reduceLeDiff, Nat.reduceLT, Nat.reduceEqDiff, Nat.reduceBEq, Nat.reduceBNe, Int.reduceNeg, Int.reduceToNat, Int.reduceLT, Int.reduceLE, Int.reduceEq, Int.reduceAdd, Int.reduceMul, Int.reduceSub, Nat.reduceSucc, Nat.reduceGT, Nat.reducePow, Int.reducePow, reduceCtorEq, ↓reduceIte]
                refine acond_b (fun h4 => ?_) (fun h4 => ?_) <;> (try simp only [decide_eq_true_eq, decide_eq_false_iff_not] at h4) <;> simp (disch := omega) only [Sh.out h4, go_sem, Nat.reduceAdd, Nat.reduceMul, Nat.reduceSub, Nat.reduceLeDiff, Nat.reduceLT, Nat.reduceEqDiff, Nat.reduceBEq, Nat.reduceBNe, Int.reduceNeg, Int.reduceToNat, Int.reduceLT, Int.reduceLE, Int.reduceEq, Int.reduceAdd, Int.reduceMul, Int.reduceSub, Nat.reduceSucc, Nat.reduceGT, Nat.reducePow, Int.reducePow, reduceCtorEq, ↓reduceIte]
                · have : ((List.range r.visits.length).any fun i => decide (vIx r.visits (nth r.visits i) ≠ (i : Int))) = true := by
                    rw [List.any_eq_true]; exact ⟨k, by simpa using hk2, by simpa using h4⟩
                  rw [if_pos this]
                · exact ⟨k + 1, ⟨by omega, upto_iff.2 ⟨hno, by omega⟩⟩, by omega, Weak.mk (by simp (disch := omega) only [instO, rteO, go_sem, Nat.reduceAdd, Nat.reduceMul, Nat.reduceSub, Nat.reduceLeDiff, Nat.reduceLT, Nat.reduceEqDiff, Nat.reduceBEq, Nat.reduceBNe, Int.reduceNeg, Int.reduceToNat, Int.reduceLT, Int.reduceLE, Int.reduceEq, Int.reduceAdd, Int.reduceMul, Int.reduceSub, Nat.reduceSucc, Nat.reduceGT, Nat.reducePow, Int.reducePow, reduceCtorEq, ↓reduceIte])⟩
              · have hkl : k = r.visits.length := by omega
                subst hkl
                have : ((List.range r.visits.length).any fun i => decide (vIx r.visits (nth r.visits i) ≠ (i : Int))) = false := by
                  rw [List.any_eq_false]; intro i hi; simpa using hno i (by simpa using hi)
                rw [this, if_neg (by simp)]
                refine (rpaired_c x r.visits r.visits_c hl (by omega) hp hmem).use ?_
                simp (disch := omega) only [go_sem, Nat.reduceAdd, Nat.reduceMul, Nat.reduceSub, Nat.reduceLeDiff, Nat.reduceLT, Nat.reduceEqDiff, Nat.reduceBEq, Nat.reduceBNe, Int.reduceNeg, Int.reduceToNat, Int.reduceLT, Int.reduceLE, Int.reduceEq, Int.reduceAdd, Int.reduceMul, Int.reduceSub, Nat.reduceSucc, Nat.reduceGT, Nat.reducePow, Int.reducePow, reduceCtorEq, ↓reduceIte]
                refine acond_b (fun h4 => ?_) (fun h4 => ?_) <;> (try simp only [decide_eq_true_eq, decide_eq_false_iff_not] at h4) <;> simp (disch := omega) only [Sh.out h4, go_sem, Nat.reduceAdd, Nat.reduceMul, Nat.reduceSub, Nat.reduceLeDiff, Nat.reduceLT, Nat.reduceEqDiff, Nat.reduceBEq, Nat.reduceBNe, Int.reduceNeg, Int.reduceToNat, Int.reduceLT, Int.reduceLE, Int.reduceEq, Int.reduceAdd, Int.reduceMul, Int.reduceSub, Nat.reduceSucc, Nat.reduceGT, Nat.reducePow, Int.reducePow, reduceCtorEq, ↓reduceIte]
                · rw [if_pos (by simpa using h4)]
                · rw [if_neg (by simpa using h4)]
                  refine (rapart_c x (ordS r.visits) hlt hap).use ?_
                  simp (disch := omega) only [go_sem, Nat.reduceAdd, Nat.reduceMul, Nat.reduceSub, Nat.reduceLeDiff, Nat.reduceLT, Nat.reduceEqDiff, Nat.reduceBEq, Nat.reduceBNe, Int.reduceNeg, Int.reduceToNat, Int.reduceLT, Int.reduceLE, Int.reduceEq, Int.reduceAdd, Int.reduceMul, Int.reduceSub, Nat.reduceSucc, Nat.reduceGT, Nat.reducePow, Int.reducePow, reduceCtorEq, ↓reduceIte]
                  refine acond_b (fun h5 => ?_) (fun h5 => ?_) <;> (try simp only [decide_eq_true_eq, decide_eq_false_iff_not] at h5) <;> simp (disch := omega) only [Sh.out h5, go_sem, Nat.reduceAdd, Nat.reduceMul, Nat.reduceSub, Nat.reduceLeDiff, Nat.reduceLT, Nat.reduceEqDiff, Nat.reduceBEq, Nat.reduceBNe, Int.reduceNeg, Int.reduceToNat, Int.reduceLT, Int.reduceLE, Int.reduceEq, Int.reduceAdd, Int.reduceMul, Int.reduceSub, Nat.reduceSucc, Nat.reduceGT, Nat.reducePow, Int.reducePow, reduceCtorEq, ↓reduceIte]
                  · rw [if_pos (by simpa using h5)]
                  · rw [if_neg (by simpa using h5)]
                    refine (rbefore_c x (ordS r.visits) r.visits r.visits_c hlt hl hbe).use ?_
                    simp (disch := omega) only [go_sem, Nat.reduceAdd, Nat.reduceMul, Nat.reduceSub, Nat.reduceLeDiff, Nat.reduceLT, Nat.reduceEqDiff, Nat.reduceBEq, Nat.reduceBNe, Int.reduceNeg, Int.reduceToNat, Int.reduceLT, Int.reduceLE, Int.reduceEq, Int.reduceAdd, Int.reduceMul, Int.reduceSub, Nat.reduceSucc, Nat.reduceGT, Nat.reducePow, Int.reducePow, reduceCtorEq, ↓reduceIte]
                    refine acond_b (fun h6 => ?_) (fun h6 => ?_) <;> (try simp only [decide_eq_true_eq, decide_eq_false_iff_not] at h6) <;> simp (disch := omega) only [Sh.out h6, go_sem, Nat.reduceAdd, Nat.reduceMul, Nat.reduceSub, Nat.reduceLeDiff, Nat.reduceLT, Nat.reduceEqDiff, Nat.reduceBEq, Nat.reduceBNe, Int.reduceNeg, Int.reduceToNat, Int.reduceLT, Int.reduceLE, Int.reduceEq, Int.reduceAdd, Int.reduceMul, Int.reduceSub, Nat.reduceSucc, Nat.reduceGT, Nat.reducePow, Int.reducePow, reduceCtorEq, ↓reduceIte]
                    · rw [if_pos (by simpa using h6)]
                    · rw [if_neg (by simpa using h6)]
end Go.Proofs.Ytlbhefiehkmhjaa.K
