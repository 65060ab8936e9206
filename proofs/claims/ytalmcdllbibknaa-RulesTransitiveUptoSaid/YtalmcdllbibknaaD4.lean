/- Contracts: the specification's Allowed, Never, Right. -/
import Derived.Test.YtalmcdllbibknaaD3
set_option linter.unusedVariables false
set_option linter.unusedSimpArgs false
namespace Go.Proofs.Ytalmcdllbibknaa.K
open Go Go.AM Go.Proofs
set_option maxRecDepth 8000
set_option maxHeartbeats 8000000

theorem memU_any_yes {S : Nat} {f : Int → Bool} {k : Nat} (hk : k < 63) (hb : S.testBit k = true) (hf : f (k : Int) = true) : (memU (S : Int) 63).any f = true := by
  rw [List.any_eq_true]
  refine ⟨(k : Int), ?_, hf⟩
  simp only [memU, List.mem_map, List.mem_filter, List.mem_range]
  exact ⟨k, ⟨hk, by rw [sHas_nat _ _ (by omega)]; exact hb⟩, rfl⟩
theorem memU_any_no {S : Nat} {f : Int → Bool} (h : ∀ k, k < 63 → S.testBit k = true → f (k : Int) = false) : (memU (S : Int) 63).any f = false := by
  rw [List.any_eq_false]
  intro x hx
  simp only [memU, List.mem_map, List.mem_filter, List.mem_range] at hx
  obtain ⟨k, ⟨hk, hb⟩, rfl⟩ := hx
  rw [sHas_nat _ _ (by omega)] at hb
  rw [h k hk hb]; simp

theorem sHas_int (s : Nat) (i : Int) (h0 : 0 ≤ i) (hi : i ≤ 62) : sHas (s : Int) i = s.testBit i.toNat := by
  obtain ⟨n, rfl⟩ : ∃ n : Nat, i = (n : Int) := ⟨i.toNat, by omega⟩
  exact sHas_nat s n (by omega)

theorem rallowed_c (pl ar ty : PV) (c1 c2 c3 : Bool) (os : List Ord) (ap be : List (Int × Int)) (s : Int) (h1 : pl.one = true) (h2 : ar.one = true) (h3 : ty.one = true) (hs63 : s < 9223372036854775808) (hn : os.length ≤ 60) (hla : ap.length ≤ 1048576) (hl : be.length ≤ 1048576) (hva : Val os.length ap) (hv : Val os.length be) :
    ACalls Try.prog 19 [.p (inst pl ar ty c1 c2 c3 (os.map eO) ap be), .p (.int .i64 s)] [] fun x H' => x = .p (.int .i64 (allowed os ap be s)) ∧ H' = [] := by
  have hp60 : pw os.length ≤ pw 62 := pw_le (by omega)
  have h62 := pw_62
  refine acalls_pure (fn := Try.f19) Try.func19 rfl isF19 ?_
  simp (disch := omega) only [Try.f19, h1, h2, h3, go_sem, Nat.reduceAdd, Nat.reduceMul, Nat.reduceSub, Nat.reduceLeDiff, Nat.reduceLT, Nat.reduceEqDiff, Nat.reduceBEq, Nat.reduceBNe, Int.reduceNeg, Int.reduceToNat, Int.reduceLT, Int.reduceLE, Int.reduceEq, Int.reduceAdd, Int.reduceMul, Int.reduceSub, Nat.reduceSucc, Nat.reduceGT, Nat.reducePow, Int.reducePow, reduceCtorEq, ↓reduceIte]
  refine aguard_f (fun h => ?_) (fun h => ?_) <;> (try simp only [decide_eq_true_eq, decide_eq_false_iff_not] at h) <;> simp (disch := omega) only [h, go_sem, Nat.reduceAdd, Nat.reduceMul, Nat.reduceSub, Nat.reduceLeDiff, Nat.reduceLT, Nat.reduceEqDiff, Nat.reduceBEq, Nat.reduceBNe, Int.reduceNeg, Int.reduceToNat, Int.reduceLT, Int.reduceLE, Int.reduceEq, Int.reduceAdd, Int.reduceMul, Int.reduceSub, Nat.reduceSucc, Nat.reduceGT, Nat.reducePow, Int.reducePow, reduceCtorEq, ↓reduceIte]
  · simp [allowed, h]
  · refine (bit_c os.length (by omega)).use ?_
    obtain ⟨S, rfl⟩ : ∃ S : Nat, s = (S : Int) := ⟨s.toNat, by omega⟩
    simp (disch := omega) only [go_sem, Nat.reduceAdd, Nat.reduceMul, Nat.reduceSub, Nat.reduceLeDiff, Nat.reduceLT, Nat.reduceEqDiff, Nat.reduceBEq, Nat.reduceBNe, Int.reduceNeg, Int.reduceToNat, Int.reduceLT, Int.reduceLE, Int.reduceEq, Int.reduceAdd, Int.reduceMul, Int.reduceSub, Nat.reduceSucc, Nat.reduceGT, Nat.reducePow, Int.reducePow, reduceCtorEq, ↓reduceIte]
    have e0 : ¬ (S : Int) < 0 := h
    refine acond_b (fun h4 => ?_) (fun h4 => ?_) <;> (try simp only [decide_eq_true_eq, decide_eq_false_iff_not] at h4) <;> simp (disch := omega) only [h4, go_sem, Nat.reduceAdd, Nat.reduceMul, Nat.reduceSub, Nat.reduceLeDiff, Nat.reduceLT, Nat.reduceEqDiff, Nat.reduceBEq, Nat.reduceBNe, Int.reduceNeg, Int.reduceToNat, Int.reduceLT, Int.reduceLE, Int.reduceEq, Int.reduceAdd, Int.reduceMul, Int.reduceSub, Nat.reduceSucc, Nat.reduceGT, Nat.reducePow, Int.reducePow, reduceCtorEq, ↓reduceIte]
    · have e1 : (memU (S : Int) 63).any (fun i => decide ((os.length : Int) ≤ i)) = true := by
        obtain ⟨j, hj, hj2⟩ := Nat.exists_ge_and_testBit_of_ge_two_pow (show 2 ^ os.length ≤ S from by show pw os.length ≤ S; omega)
        have hj63 : j < 63 := by
          apply Nat.lt_of_not_le
          intro hle
          have : S < 2 ^ j := Nat.lt_of_lt_of_le (show S < 2 ^ 63 by omega) (Nat.pow_le_pow_right (by omega) hle)
          rw [Nat.testBit_lt_two_pow this] at hj2; cases hj2
        exact memU_any_yes hj63 hj2 (by simp; omega)
      simp only [allowed, e0, e1, if_true, if_false]
    · have hSn : S < pw os.length := by omega
      have hbig : ∀ k, os.length ≤ k → S.testBit k = false := fun k hk => Nat.testBit_lt_two_pow (Nat.lt_of_lt_of_le hSn (pw_le hk))
      have e1 : (memU (S : Int) 63).any (fun i => decide ((os.length : Int) ≤ i)) = false := memU_any_no fun k hk hb => by
        rcases Nat.lt_or_ge k os.length with h5 | h5
        · simp; omega
        · rw [hbig k h5] at hb; cases hb
      refine awp_for [1, 2, 5] (fun k : Nat => [(6, .p (.int .i64 k))]) (fun _ => instH pl ar ty c1 c2 c3 (os.map eO) ap be) (fun k => k ≤ os.length ∧ ∀ j, j < k → (S.testBit j && (nth os j).off) = false) (fun k => os.length - k) 0 (by simp) (Weak.mk ?_) ?_
      · simp (disch := omega) only [instH, go_sem, Nat.reduceAdd, Nat.reduceMul, Nat.reduceSub, Nat.reduceLeDiff, Nat.reduceLT, Nat.reduceEqDiff, Nat.reduceBEq, Nat.reduceBNe, Int.reduceNeg, Int.reduceToNat, Int.reduceLT, Int.reduceLE, Int.reduceEq, Int.reduceAdd, Int.reduceMul, Int.reduceSub, Nat.reduceSucc, Nat.reduceGT, Nat.reducePow, Int.reducePow, reduceCtorEq, ↓reduceIte]
      · rintro k ⟨hk, hno⟩
        simp (disch := omega) only [instH, go_sem, Nat.reduceAdd, Nat.reduceMul, Nat.reduceSub, Nat.reduceLeDiff, Nat.reduceLT, Nat.reduceEqDiff, Nat.reduceBEq, Nat.reduceBNe, Int.reduceNeg, Int.reduceToNat, Int.reduceLT, Int.reduceLE, Int.reduceEq, Int.reduceAdd, Int.reduceMul, Int.reduceSub, Nat.reduceSucc, Nat.reduceGT, Nat.reducePow, Int.reducePow, reduceCtorEq, ↓reduceIte]
        refine acond_b (fun h5 => ?_) (fun h5 => ?_) <;> (try simp only [decide_eq_true_eq, decide_eq_false_iff_not] at h5) <;> simp (disch := omega) only [h5, go_sem, Nat.reduceAdd, Nat.reduceMul, Nat.reduceSub, Nat.reduceLeDiff, Nat.reduceLT, Nat.reduceEqDiff, Nat.reduceBEq, Nat.reduceBNe, Int.reduceNeg, Int.reduceToNat, Int.reduceLT, Int.reduceLE, Int.reduceEq, Int.reduceAdd, Int.reduceMul, Int.reduceSub, Nat.reduceSucc, Nat.reduceGT, Nat.reducePow, Int.reducePow, reduceCtorEq, ↓reduceIte]
        · have hk2 : k < os.length := by omega
          refine (rhas_c S k (by omega) (by omega)).use ?_
          simp (disch := omega) only [go_sem, Nat.reduceAdd, Nat.reduceMul, Nat.reduceSub, Nat.reduceLeDiff, Nat.reduceLT, Nat.reduceEqDiff, Nat.reduceBEq, Nat.reduceBNe, Int.reduceNeg, Int.reduceToNat, Int.reduceLT, Int.reduceLE, Int.reduceEq, Int.reduceAdd, Int.reduceMul, Int.reduceSub, Nat.reduceSucc, Nat.reduceGT, Nat.reducePow, Int.reducePow, reduceCtorEq, ↓reduceIte]
          refine aguard_t (fun h6 => ?_) (fun h6 => ?_) <;> (try simp only [decide_eq_true_eq, decide_eq_false_iff_not] at h6) <;> simp (disch := omega) only [h6, go_sem, Nat.reduceAdd, Nat.reduceMul, Nat.reduceSub, Nat.reduceLeDiff, Nat.reduceLT, Nat.reduceEqDiff, Nat.reduceBEq, Nat.reduceBNe, Int.reduceNeg, Int.reduceToNat, Int.reduceLT, Int.reduceLE, Int.reduceEq, Int.reduceAdd, Int.reduceMul, Int.reduceSub, Nat.reduceSucc, Nat.reduceGT, Nat.reducePow, Int.reducePow, reduceCtorEq, ↓reduceIte]
          · refine acond_b (fun h7 => ?_) (fun h7 => ?_) <;> (try simp only [decide_eq_true_eq, decide_eq_false_iff_not] at h7) <;> simp (disch := omega) only [h7, go_sem, Nat.reduceAdd, Nat.reduceMul, Nat.reduceSub, Nat.reduceLeDiff, Nat.reduceLT, Nat.reduceEqDiff, Nat.reduceBEq, Nat.reduceBNe, Int.reduceNeg, Int.reduceToNat, Int.reduceLT, Int.reduceLE, Int.reduceEq, Int.reduceAdd, Int.reduceMul, Int.reduceSub, Nat.reduceSucc, Nat.reduceGT, Nat.reducePow, Int.reducePow, reduceCtorEq, ↓reduceIte]
            · have e2 : (memU (S : Int) 63).any (fun i => (nth os i.toNat).off) = true := memU_any_yes (k := k) (by omega) h6 (by simpa using h7)
              simp only [allowed, e0, e1, e2, if_true, if_false, Bool.false_eq_true]
            · exact ⟨k + 1, ⟨by omega, upto_succ hno (by simp [h7])⟩, by omega, Weak.mk (by simp (disch := omega) only [instH, go_sem, Nat.reduceAdd, Nat.reduceMul, Nat.reduceSub, Nat.reduceLeDiff, Nat.reduceLT, Nat.reduceEqDiff, Nat.reduceBEq, Nat.reduceBNe, Int.reduceNeg, Int.reduceToNat, Int.reduceLT, Int.reduceLE, Int.reduceEq, Int.reduceAdd, Int.reduceMul, Int.reduceSub, Nat.reduceSucc, Nat.reduceGT, Nat.reducePow, Int.reducePow, reduceCtorEq, ↓reduceIte])⟩
          · exact ⟨k + 1, ⟨by omega, upto_succ hno (by simp [h6])⟩, by omega, Weak.mk (by simp (disch := omega) only [instH, go_sem, Nat.reduceAdd, Nat.reduceMul, Nat.reduceSub, Nat.reduceLeDiff, Nat.reduceLT, Nat.reduceEqDiff, Nat.reduceBEq, Nat.reduceBNe, Int.reduceNeg, Int.reduceToNat, Int.reduceLT, Int.reduceLE, Int.reduceEq, Int.reduceAdd, Int.reduceMul, Int.reduceSub, Nat.reduceSucc, Nat.reduceGT, Nat.reducePow, Int.reducePow, reduceCtorEq, ↓reduceIte])⟩
        · have hkn : k = os.length := by omega
          subst hkn
          have e2 : (memU (S : Int) 63).any (fun i => (nth os i.toNat).off) = false := memU_any_no fun j hj hb => by
            rcases Nat.lt_or_ge j os.length with h6 | h6
            · have := hno j h6
              simpa [hb] using this
            · rw [hbig j h6] at hb; cases hb
          clear hno hk h5
          refine awp_for [1, 2, 5] (fun k : Nat => [(7, .p (.int .i64 k))]) (fun _ => instH pl ar ty c1 c2 c3 (os.map eO) ap be) (fun k => k ≤ ap.length ∧ ∀ j, j < k → (sHas (S : Int) (nth ap j).1 && sHas (S : Int) (nth ap j).2) = false) (fun k => ap.length - k) 0 (by simp) (Weak.mk ?_) ?_
          · simp (disch := omega) only [instH, go_sem, Nat.reduceAdd, Nat.reduceMul, Nat.reduceSub, Nat.reduceLeDiff, Nat.reduceLT, Nat.reduceEqDiff, Nat.reduceBEq, Nat.reduceBNe, Int.reduceNeg, Int.reduceToNat, Int.reduceLT, Int.reduceLE, Int.reduceEq, Int.reduceAdd, Int.reduceMul, Int.reduceSub, Nat.reduceSucc, Nat.reduceGT, Nat.reducePow, Int.reducePow, reduceCtorEq, ↓reduceIte]
          · rintro k ⟨hk, hno⟩
            simp (disch := omega) only [instH, go_sem, Nat.reduceAdd, Nat.reduceMul, Nat.reduceSub, Nat.reduceLeDiff, Nat.reduceLT, Nat.reduceEqDiff, Nat.reduceBEq, Nat.reduceBNe, Int.reduceNeg, Int.reduceToNat, Int.reduceLT, Int.reduceLE, Int.reduceEq, Int.reduceAdd, Int.reduceMul, Int.reduceSub, Nat.reduceSucc, Nat.reduceGT, Nat.reducePow, Int.reducePow, reduceCtorEq, ↓reduceIte]
            refine acond_b (fun h5 => ?_) (fun h5 => ?_) <;> (try simp only [decide_eq_true_eq, decide_eq_false_iff_not] at h5) <;> simp (disch := omega) only [h5, go_sem, Nat.reduceAdd, Nat.reduceMul, Nat.reduceSub, Nat.reduceLeDiff, Nat.reduceLT, Nat.reduceEqDiff, Nat.reduceBEq, Nat.reduceBNe, Int.reduceNeg, Int.reduceToNat, Int.reduceLT, Int.reduceLE, Int.reduceEq, Int.reduceAdd, Int.reduceMul, Int.reduceSub, Nat.reduceSucc, Nat.reduceGT, Nat.reducePow, Int.reducePow, reduceCtorEq, ↓reduceIte]
            · have hk2 : k < ap.length := by omega
              have hvi := hva (nth ap k) (by rw [nth_get hk2]; exact List.getElem_mem _)
              have q1 : sHas (S : Int) (nth ap k).1 = S.testBit (nth ap k).1.toNat := sHas_int _ _ (by omega) (by omega)
              have q2 : sHas (S : Int) (nth ap k).2 = S.testBit (nth ap k).2.toNat := sHas_int _ _ (by omega) (by omega)
              refine (rhas_i S (nth ap k).1 (by omega) (by omega) (by omega)).use ?_
              simp (disch := omega) only [go_sem, Nat.reduceAdd, Nat.reduceMul, Nat.reduceSub, Nat.reduceLeDiff, Nat.reduceLT, Nat.reduceEqDiff, Nat.reduceBEq, Nat.reduceBNe, Int.reduceNeg, Int.reduceToNat, Int.reduceLT, Int.reduceLE, Int.reduceEq, Int.reduceAdd, Int.reduceMul, Int.reduceSub, Nat.reduceSucc, Nat.reduceGT, Nat.reducePow, Int.reducePow, reduceCtorEq, ↓reduceIte]
              refine aguard_t (fun h6 => ?_) (fun h6 => ?_) <;> (try simp only [decide_eq_true_eq, decide_eq_false_iff_not] at h6) <;> simp (disch := omega) only [h6, go_sem, Nat.reduceAdd, Nat.reduceMul, Nat.reduceSub, Nat.reduceLeDiff, Nat.reduceLT, Nat.reduceEqDiff, Nat.reduceBEq, Nat.reduceBNe, Int.reduceNeg, Int.reduceToNat, Int.reduceLT, Int.reduceLE, Int.reduceEq, Int.reduceAdd, Int.reduceMul, Int.reduceSub, Nat.reduceSucc, Nat.reduceGT, Nat.reducePow, Int.reducePow, reduceCtorEq, ↓reduceIte]
              · refine (rhas_i S (nth ap k).2 (by omega) (by omega) (by omega)).use ?_
                simp (disch := omega) only [go_sem, Nat.reduceAdd, Nat.reduceMul, Nat.reduceSub, Nat.reduceLeDiff, Nat.reduceLT, Nat.reduceEqDiff, Nat.reduceBEq, Nat.reduceBNe, Int.reduceNeg, Int.reduceToNat, Int.reduceLT, Int.reduceLE, Int.reduceEq, Int.reduceAdd, Int.reduceMul, Int.reduceSub, Nat.reduceSucc, Nat.reduceGT, Nat.reducePow, Int.reducePow, reduceCtorEq, ↓reduceIte]
                refine acond_b (fun h7 => ?_) (fun h7 => ?_) <;> (try simp only [decide_eq_true_eq, decide_eq_false_iff_not] at h7) <;> simp (disch := omega) only [h7, go_sem, Nat.reduceAdd, Nat.reduceMul, Nat.reduceSub, Nat.reduceLeDiff, Nat.reduceLT, Nat.reduceEqDiff, Nat.reduceBEq, Nat.reduceBNe, Int.reduceNeg, Int.reduceToNat, Int.reduceLT, Int.reduceLE, Int.reduceEq, Int.reduceAdd, Int.reduceMul, Int.reduceSub, Nat.reduceSucc, Nat.reduceGT, Nat.reducePow, Int.reducePow, reduceCtorEq, ↓reduceIte]
                · have e3 : ap.any (fun p => sHas (S : Int) p.1 && sHas (S : Int) p.2) = true := any_yes hk2 (by rw [q1, q2, h6, h7]; rfl)
                  simp only [allowed, e0, e1, e2, e3, if_true, if_false, Bool.false_eq_true]
                · exact ⟨k + 1, ⟨by omega, upto_succ hno (by rw [q1, q2, h6, h7]; rfl)⟩, by omega, Weak.mk (by simp (disch := omega) only [instH, go_sem, Nat.reduceAdd, Nat.reduceMul, Nat.reduceSub, Nat.reduceLeDiff, Nat.reduceLT, Nat.reduceEqDiff, Nat.reduceBEq, Nat.reduceBNe, Int.reduceNeg, Int.reduceToNat, Int.reduceLT, Int.reduceLE, Int.reduceEq, Int.reduceAdd, Int.reduceMul, Int.reduceSub, Nat.reduceSucc, Nat.reduceGT, Nat.reducePow, Int.reducePow, reduceCtorEq, ↓reduceIte])⟩
              · exact ⟨k + 1, ⟨by omega, upto_succ hno (by rw [q1, q2, h6]; rfl)⟩, by omega, Weak.mk (by simp (disch := omega) only [instH, go_sem, Nat.reduceAdd, Nat.reduceMul, Nat.reduceSub, Nat.reduceLeDiff, Nat.reduceLT, Nat.reduceEqDiff, Nat.reduceBEq, Nat.reduceBNe, Int.reduceNeg, Int.reduceToNat, Int.reduceLT, Int.reduceLE, Int.reduceEq, Int.reduceAdd, Int.reduceMul, Int.reduceSub, Nat.reduceSucc, Nat.reduceGT, Nat.reducePow, Int.reducePow, reduceCtorEq, ↓reduceIte])⟩
            · have hkn : k = ap.length := by omega
              subst hkn
              have e3 : ap.any (fun p => sHas (S : Int) p.1 && sHas (S : Int) p.2) = false := any_no hno
              clear hno hk h5
              refine awp_for [1, 2, 5] (fun k : Nat => [(8, .p (.int .i64 k))]) (fun _ => instH pl ar ty c1 c2 c3 (os.map eO) ap be) (fun k => k ≤ be.length ∧ ∀ j, j < k → (sHas (S : Int) (nth be j).2 && !sHas (S : Int) (nth be j).1) = false) (fun k => be.length - k) 0 (by simp) (Weak.mk ?_) ?_
              · simp (disch := omega) only [instH, go_sem, Nat.reduceAdd, Nat.reduceMul, Nat.reduceSub, Nat.reduceLeDiff, Nat.reduceLT, Nat.reduceEqDiff, Nat.reduceBEq, Nat.reduceBNe, Int.reduceNeg, Int.reduceToNat, Int.reduceLT, Int.reduceLE, Int.reduceEq, Int.reduceAdd, Int.reduceMul, Int.reduceSub, Nat.reduceSucc, Nat.reduceGT, Nat.reducePow, Int.reducePow, reduceCtorEq, ↓reduceIte]
              · rintro k ⟨hk, hno⟩
                simp (disch := omega) only [instH, go_sem, Nat.reduceAdd, Nat.reduceMul, Nat.reduceSub, Nat.reduceLeDiff, Nat.reduceLT, Nat.reduceEqDiff, Nat.reduceBEq, Nat.reduceBNe, Int.reduceNeg, Int.reduceToNat, Int.reduceLT, Int.reduceLE, Int.reduceEq, Int.reduceAdd, Int.reduceMul, Int.reduceSub, Nat.reduceSucc, Nat.reduceGT, Nat.reducePow, Int.reducePow, reduceCtorEq, ↓reduceIte]
                refine acond_b (fun h5 => ?_) (fun h5 => ?_) <;> (try simp only [decide_eq_true_eq, decide_eq_false_iff_not] at h5) <;> simp (disch := omega) only [h5, go_sem, Nat.reduceAdd, Nat.reduceMul, Nat.reduceSub, Nat.reduceLeDiff, Nat.reduceLT, Nat.reduceEqDiff, Nat.reduceBEq, Nat.reduceBNe, Int.reduceNeg, Int.reduceToNat, Int.reduceLT, Int.reduceLE, Int.reduceEq, Int.reduceAdd, Int.reduceMul, Int.reduceSub, Nat.reduceSucc, Nat.reduceGT, Nat.reducePow, Int.reducePow, reduceCtorEq, ↓reduceIte]
                · have hk2 : k < be.length := by omega
                  have hvi := hv (nth be k) (by rw [nth_get hk2]; exact List.getElem_mem _)
                  have q1 : sHas (S : Int) (nth be k).1 = S.testBit (nth be k).1.toNat := sHas_int _ _ (by omega) (by omega)
                  have q2 : sHas (S : Int) (nth be k).2 = S.testBit (nth be k).2.toNat := sHas_int _ _ (by omega) (by omega)
                  refine (rhas_i S (nth be k).2 (by omega) (by omega) (by omega)).use ?_
                  simp (disch := omega) only [go_sem, Nat.reduceAdd, Nat.reduceMul, Nat.reduceSub, Nat.reduceLeDiff, Nat.reduceLT, Nat.reduceEqDiff, Nat.reduceBEq, Nat.reduceBNe, Int.reduceNeg, Int.reduceToNat, Int.reduceLT, Int.reduceLE, Int.reduceEq, Int.reduceAdd, Int.reduceMul, Int.reduceSub, Nat.reduceSucc, Nat.reduceGT, Nat.reducePow, Int.reducePow, reduceCtorEq, ↓reduceIte]
                  refine aguard_t (fun h6 => ?_) (fun h6 => ?_) <;> (try simp only [decide_eq_true_eq, decide_eq_false_iff_not] at h6) <;> simp (disch := omega) only [h6, go_sem, Nat.reduceAdd, Nat.reduceMul, Nat.reduceSub, Nat.reduceLeDiff, Nat.reduceLT, Nat.reduceEqDiff, Nat.reduceBEq, Nat.reduceBNe, Int.reduceNeg, Int.reduceToNat, Int.reduceLT, Int.reduceLE, Int.reduceEq, Int.reduceAdd, Int.reduceMul, Int.reduceSub, Nat.reduceSucc, Nat.reduceGT, Nat.reducePow, Int.reducePow, reduceCtorEq, ↓reduceIte]
                  · refine (rhas_i S (nth be k).1 (by omega) (by omega) (by omega)).use ?_
                    simp (disch := omega) only [go_sem, Nat.reduceAdd, Nat.reduceMul, Nat.reduceSub, Nat.reduceLeDiff, Nat.reduceLT, Nat.reduceEqDiff, Nat.reduceBEq, Nat.reduceBNe, Int.reduceNeg, Int.reduceToNat, Int.reduceLT, Int.reduceLE, Int.reduceEq, Int.reduceAdd, Int.reduceMul, Int.reduceSub, Nat.reduceSucc, Nat.reduceGT, Nat.reducePow, Int.reducePow, reduceCtorEq, ↓reduceIte]
                    refine acond_b (fun h7 => ?_) (fun h7 => ?_) <;> (try simp only [decide_eq_true_eq, decide_eq_false_iff_not] at h7) <;> simp (disch := omega) only [h7, go_sem, Nat.reduceAdd, Nat.reduceMul, Nat.reduceSub, Nat.reduceLeDiff, Nat.reduceLT, Nat.reduceEqDiff, Nat.reduceBEq, Nat.reduceBNe, Int.reduceNeg, Int.reduceToNat, Int.reduceLT, Int.reduceLE, Int.reduceEq, Int.reduceAdd, Int.reduceMul, Int.reduceSub, Nat.reduceSucc, Nat.reduceGT, Nat.reducePow, Int.reducePow, reduceCtorEq, ↓reduceIte]
                    · have e4 : be.any (fun p => sHas (S : Int) p.2 && !sHas (S : Int) p.1) = true := any_yes hk2 (by rw [q1, q2, h6, h7]; rfl)
                      simp only [allowed, e0, e1, e2, e3, e4, if_true, if_false, Bool.false_eq_true]
                    · exact ⟨k + 1, ⟨by omega, upto_succ hno (by rw [q1, q2, h6, h7]; rfl)⟩, by omega, Weak.mk (by simp (disch := omega) only [instH, go_sem, Nat.reduceAdd, Nat.reduceMul, Nat.reduceSub, Nat.reduceLeDiff, Nat.reduceLT, Nat.reduceEqDiff, Nat.reduceBEq, Nat.reduceBNe, Int.reduceNeg, Int.reduceToNat, Int.reduceLT, Int.reduceLE, Int.reduceEq, Int.reduceAdd, Int.reduceMul, Int.reduceSub, Nat.reduceSucc, Nat.reduceGT, Nat.reducePow, Int.reducePow, reduceCtorEq, ↓reduceIte])⟩
                  · exact ⟨k + 1, ⟨by omega, upto_succ hno (by rw [q1, q2, h6]; rfl)⟩, by omega, Weak.mk (by simp (disch := omega) only [instH, go_sem, Nat.reduceAdd, Nat.reduceMul, Nat.reduceSub, Nat.reduceLeDiff, Nat.reduceLT, Nat.reduceEqDiff, Nat.reduceBEq, Nat.reduceBNe, Int.reduceNeg, Int.reduceToNat, Int.reduceLT, Int.reduceLE, Int.reduceEq, Int.reduceAdd, Int.reduceMul, Int.reduceSub, Nat.reduceSucc, Nat.reduceGT, Nat.reducePow, Int.reducePow, reduceCtorEq, ↓reduceIte])⟩
                · have hkn : k = be.length := by omega
                  subst hkn
                  have e4 : be.any (fun p => sHas (S : Int) p.2 && !sHas (S : Int) p.1) = false := any_no hno
                  clear hno hk h5
                  have hb5 : ∀ k, k < os.length → sHas ((nth (cloOf os.length be) k : Nat) : Int) (k : Int) = (rch os.length be k).testBit k := fun k hk => by
                    rw [sHas_nat _ _ (by omega), rch_bit]; simp [hk]
                  refine awp_for [1, 2, 5] (fun k : Nat => [(9, .p (.int .i64 k))]) (fun _ => instH pl ar ty c1 c2 c3 (os.map eO) ap be) (fun k => k ≤ os.length ∧ ∀ j, j < k → (S.testBit j && (rch os.length be j).testBit j) = false) (fun k => os.length - k) 0 (by simp) (Weak.mk ?_) ?_
                  · simp (disch := omega) only [instH, go_sem, Nat.reduceAdd, Nat.reduceMul, Nat.reduceSub, Nat.reduceLeDiff, Nat.reduceLT, Nat.reduceEqDiff, Nat.reduceBEq, Nat.reduceBNe, Int.reduceNeg, Int.reduceToNat, Int.reduceLT, Int.reduceLE, Int.reduceEq, Int.reduceAdd, Int.reduceMul, Int.reduceSub, Nat.reduceSucc, Nat.reduceGT, Nat.reducePow, Int.reducePow, reduceCtorEq, ↓reduceIte]
                  · rintro k ⟨hk, hno⟩
                    simp (disch := omega) only [instH, go_sem, Nat.reduceAdd, Nat.reduceMul, Nat.reduceSub, Nat.reduceLeDiff, Nat.reduceLT, Nat.reduceEqDiff, Nat.reduceBEq, Nat.reduceBNe, Int.reduceNeg, Int.reduceToNat, Int.reduceLT, Int.reduceLE, Int.reduceEq, Int.reduceAdd, Int.reduceMul, Int.reduceSub, Nat.reduceSucc, Nat.reduceGT, Nat.reducePow, Int.reducePow, reduceCtorEq, ↓reduceIte]
                    refine acond_b (fun h5 => ?_) (fun h5 => ?_) <;> (try simp only [decide_eq_true_eq, decide_eq_false_iff_not] at h5) <;> simp (disch := omega) only [h5, go_sem, Nat.reduceAdd, Nat.reduceMul, Nat.reduceSub, Nat.reduceLeDiff, Nat.reduceLT, Nat.reduceEqDiff, Nat.reduceBEq, Nat.reduceBNe, Int.reduceNeg, Int.reduceToNat, Int.reduceLT, Int.reduceLE, Int.reduceEq, Int.reduceAdd, Int.reduceMul, Int.reduceSub, Nat.reduceSucc, Nat.reduceGT, Nat.reducePow, Int.reducePow, reduceCtorEq, ↓reduceIte]
                    · have hk2 : k < os.length := by omega
                      have hrl := rch_lt os.length be k
                      refine (rhas_c S k (by omega) (by omega)).use ?_
                      simp (disch := omega) only [go_sem, Nat.reduceAdd, Nat.reduceMul, Nat.reduceSub, Nat.reduceLeDiff, Nat.reduceLT, Nat.reduceEqDiff, Nat.reduceBEq, Nat.reduceBNe, Int.reduceNeg, Int.reduceToNat, Int.reduceLT, Int.reduceLE, Int.reduceEq, Int.reduceAdd, Int.reduceMul, Int.reduceSub, Nat.reduceSucc, Nat.reduceGT, Nat.reducePow, Int.reducePow, reduceCtorEq, ↓reduceIte]
                      refine aguard_t (fun h6 => ?_) (fun h6 => ?_) <;> (try simp only [decide_eq_true_eq, decide_eq_false_iff_not] at h6) <;> simp (disch := omega) only [h6, go_sem, Nat.reduceAdd, Nat.reduceMul, Nat.reduceSub, Nat.reduceLeDiff, Nat.reduceLT, Nat.reduceEqDiff, Nat.reduceBEq, Nat.reduceBNe, Int.reduceNeg, Int.reduceToNat, Int.reduceLT, Int.reduceLE, Int.reduceEq, Int.reduceAdd, Int.reduceMul, Int.reduceSub, Nat.reduceSucc, Nat.reduceGT, Nat.reducePow, Int.reducePow, reduceCtorEq, ↓reduceIte]
                      · refine (reach_c os.length be c3 k hn hl hv).use ?_
                        simp (disch := omega) only [go_sem, Nat.reduceAdd, Nat.reduceMul, Nat.reduceSub, Nat.reduceLeDiff, Nat.reduceLT, Nat.reduceEqDiff, Nat.reduceBEq, Nat.reduceBNe, Int.reduceNeg, Int.reduceToNat, Int.reduceLT, Int.reduceLE, Int.reduceEq, Int.reduceAdd, Int.reduceMul, Int.reduceSub, Nat.reduceSucc, Nat.reduceGT, Nat.reducePow, Int.reducePow, reduceCtorEq, ↓reduceIte]
                        refine (rhas_c (rch os.length be k) k (by omega) (by omega)).use ?_
                        simp (disch := omega) only [go_sem, Nat.reduceAdd, Nat.reduceMul, Nat.reduceSub, Nat.reduceLeDiff, Nat.reduceLT, Nat.reduceEqDiff, Nat.reduceBEq, Nat.reduceBNe, Int.reduceNeg, Int.reduceToNat, Int.reduceLT, Int.reduceLE, Int.reduceEq, Int.reduceAdd, Int.reduceMul, Int.reduceSub, Nat.reduceSucc, Nat.reduceGT, Nat.reducePow, Int.reducePow, reduceCtorEq, ↓reduceIte]
                        refine acond_b (fun h7 => ?_) (fun h7 => ?_) <;> (try simp only [decide_eq_true_eq, decide_eq_false_iff_not] at h7) <;> simp (disch := omega) only [h7, go_sem, Nat.reduceAdd, Nat.reduceMul, Nat.reduceSub, Nat.reduceLeDiff, Nat.reduceLT, Nat.reduceEqDiff, Nat.reduceBEq, Nat.reduceBNe, Int.reduceNeg, Int.reduceToNat, Int.reduceLT, Int.reduceLE, Int.reduceEq, Int.reduceAdd, Int.reduceMul, Int.reduceSub, Nat.reduceSucc, Nat.reduceGT, Nat.reducePow, Int.reducePow, reduceCtorEq, ↓reduceIte]
                        · have e5 : (memU (S : Int) 63).any (fun i => sHas ((nth (cloOf os.length be) i.toNat : Nat) : Int) i) = true := memU_any_yes (k := k) (by omega) h6 (by simp only [Int.toNat_natCast]; rw [hb5 k hk2]; exact h7)
                          simp only [allowed, e0, e1, e2, e3, e4, e5, if_true, if_false, Bool.false_eq_true]
                        · exact ⟨k + 1, ⟨by omega, upto_succ hno (by rw [h6, h7]; rfl)⟩, by omega, Weak.mk (by simp (disch := omega) only [instH, go_sem, Nat.reduceAdd, Nat.reduceMul, Nat.reduceSub, Nat.reduceLeDiff, Nat.reduceLT, Nat.reduceEqDiff, Nat.reduceBEq, Nat.reduceBNe, Int.reduceNeg, Int.reduceToNat, Int.reduceLT, Int.reduceLE, Int.reduceEq, Int.reduceAdd, Int.reduceMul, Int.reduceSub, Nat.reduceSucc, Nat.reduceGT, Nat.reducePow, Int.reducePow, reduceCtorEq, ↓reduceIte])⟩
                      · exact ⟨k + 1, ⟨by omega, upto_succ hno (by rw [h6]; rfl)⟩, by omega, Weak.mk (by simp (disch := omega) only [instH, go_sem, Nat.reduceAdd, Nat.reduceMul, Nat.reduceSub, Nat.reduceLeDiff, Nat.reduceLT, Nat.reduceEqDiff, Nat.reduceBEq, Nat.reduceBNe, Int.reduceNeg, Int.reduceToNat, Int.reduceLT, Int.reduceLE, Int.reduceEq, Int.reduceAdd, Int.reduceMul, Int.reduceSub, Nat.reduceSucc, Nat.reduceGT, Nat.reducePow, Int.reducePow, reduceCtorEq, ↓reduceIte])⟩
                    · have hkn : k = os.length := by omega
                      subst hkn
                      have e5 : (memU (S : Int) 63).any (fun i => sHas ((nth (cloOf os.length be) i.toNat : Nat) : Int) i) = false := memU_any_no fun j hj hb => by
                        rcases Nat.lt_or_ge j os.length with h6 | h6
                        · have := hno j h6
                          simp only [Int.toNat_natCast]
                          rw [hb5 j h6]
                          simpa [hb] using this
                        · rw [hbig j h6] at hb; cases hb
                      simp only [allowed, e0, e1, e2, e3, e4, e5, if_true, if_false, Bool.false_eq_true]
end Go.Proofs.Ytalmcdllbibknaa.K
