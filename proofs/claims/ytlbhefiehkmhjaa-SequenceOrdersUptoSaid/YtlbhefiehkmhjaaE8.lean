/- Contracts: all types, checked. -/
import Derived.Test.YtlbhefiehkmhjaaE7
set_option linter.unusedVariables false
set_option linter.unusedSimpArgs false
namespace Go.Proofs.Ytlbhefiehkmhjaa.K
open Go Go.AM Go.Proofs
set_option maxRecDepth 8000
set_option maxHeartbeats 16000000

def typesOk (n : Net) (l : List Typ) : Prop := rng l.length 1 6 = true ∧ ∀ i, i < l.length → typOk n l i

theorem ck10_c (n : Net) (l : List Typ) (c : Bool) (hw : n.wf 1048576) (hl : l.length ≤ 1048576) (hlw : ∀ t ∈ l, t.wf 1048576) :
    ACalls Try.prog 89 [.p (eNet n), .p (.list c (l.map eTyp))] [] fun x H' => ∃ m : List Flt, FR (pF 20) (typesOk n l) (1 + 9 * l.length) m ∧ x = .sl 0 0 m.length m.length ∧ H' = [.elems 2 (m.map eF)] := by
  refine acalls_freshE [2] (fn := Try.f89) Try.func89 rfl isF89 ?_
  simp (disch := omega) only [Try.f89, go_sem, Nat.reduceAdd, Nat.reduceMul, Nat.reduceSub, Nat.reduceLeDiff, Nat.reduceLT, Nat.reduceEqDiff, Nat.reduceBEq, Nat.reduceBNe, Int.reduceNeg, Int.reduceToNat, Int.reduceLT, Int.reduceLE, Int.reduceEq, Int.reduceAdd, Int.reduceMul, Int.reduceSub, Nat.reduceSucc, Nat.reduceGT, Nat.reducePow, Int.reducePow, reduceCtorEq, ↓reduceIte]
  refine awp_weak (Weak.ofNil 5 2 (by simp (disch := omega) only [go_sem, Nat.reduceAdd, Nat.reduceMul, Nat.reduceSub, Nat.reduceLeDiff, Nat.reduceLT, Nat.reduceEqDiff, Nat.reduceBEq, Nat.reduceBNe, Int.reduceNeg, Int.reduceToNat, Int.reduceLT, Int.reduceLE, Int.reduceEq, Int.reduceAdd, Int.reduceMul, Int.reduceSub, Nat.reduceSucc, Nat.reduceGT, Nat.reducePow, Int.reducePow, reduceCtorEq, ↓reduceIte]) (by simp) (Weak.refl _ _ _)) ?_
  refine awp_join [1, 2] (fun m : List Flt => [(5, .sl 1 0 m.length m.length)]) (fun m => netH n ++ [.elems 2 (m.map eF)]) (fun m => FR (pF 20) (rng l.length 1 6 = true) 1 m) ?_ ?_
  · simp (disch := omega) only [go_sem, Nat.reduceAdd, Nat.reduceMul, Nat.reduceSub, Nat.reduceLeDiff, Nat.reduceLT, Nat.reduceEqDiff, Nat.reduceBEq, Nat.reduceBNe, Int.reduceNeg, Int.reduceToNat, Int.reduceLT, Int.reduceLE, Int.reduceEq, Int.reduceAdd, Int.reduceMul, Int.reduceSub, Nat.reduceSucc, Nat.reduceGT, Nat.reducePow, Int.reducePow, reduceCtorEq, ↓reduceIte]
    refine (in10_c l.length 1 6).use ?_
    simp (disch := omega) only [go_sem, Nat.reduceAdd, Nat.reduceMul, Nat.reduceSub, Nat.reduceLeDiff, Nat.reduceLT, Nat.reduceEqDiff, Nat.reduceBEq, Nat.reduceBNe, Int.reduceNeg, Int.reduceToNat, Int.reduceLT, Int.reduceLE, Int.reduceEq, Int.reduceAdd, Int.reduceMul, Int.reduceSub, Nat.reduceSucc, Nat.reduceGT, Nat.reducePow, Int.reducePow, reduceCtorEq, ↓reduceIte]
    refine acond_b (fun h => ?_) (fun h => ?_) <;> (try simp only [decide_eq_true_eq, decide_eq_false_iff_not] at h) <;> simp (disch := omega) only [Sh.out h, go_sem, Nat.reduceAdd, Nat.reduceMul, Nat.reduceSub, Nat.reduceLeDiff, Nat.reduceLT, Nat.reduceEqDiff, Nat.reduceBEq, Nat.reduceBNe, Int.reduceNeg, Int.reduceToNat, Int.reduceLT, Int.reduceLE, Int.reduceEq, Int.reduceAdd, Int.reduceMul, Int.reduceSub, Nat.reduceSucc, Nat.reduceGT, Nat.reducePow, Int.reducePow, reduceCtorEq, ↓reduceIte]
    · simp only [Bool.not_eq_true'] at h
      exact ⟨[(4, [])], ⟨by simp, by simp [h], by simp [pF]⟩, Weak.mk (by simp (disch := omega) only [netH, go_sem, Nat.reduceAdd, Nat.reduceMul, Nat.reduceSub, Nat.reduceLeDiff, Nat.reduceLT, Nat.reduceEqDiff, Nat.reduceBEq, Nat.reduceBNe, Int.reduceNeg, Int.reduceToNat, Int.reduceLT, Int.reduceLE, Int.reduceEq, Int.reduceAdd, Int.reduceMul, Int.reduceSub, Nat.reduceSucc, Nat.reduceGT, Nat.reducePow, Int.reducePow, reduceCtorEq, ↓reduceIte])⟩
    · simp only [Bool.not_eq_false'] at h
      exact ⟨[], FR.nil h, Weak.mk (by simp (disch := omega) only [netH, go_sem, Nat.reduceAdd, Nat.reduceMul, Nat.reduceSub, Nat.reduceLeDiff, Nat.reduceLT, Nat.reduceEqDiff, Nat.reduceBEq, Nat.reduceBNe, Int.reduceNeg, Int.reduceToNat, Int.reduceLT, Int.reduceLE, Int.reduceEq, Int.reduceAdd, Int.reduceMul, Int.reduceSub, Nat.reduceSucc, Nat.reduceGT, Nat.reducePow, Int.reducePow, reduceCtorEq, ↓reduceIte])⟩
  · intro m hm
    refine awp_sound [] _ _ _ _ ?_
    simp (disch := omega) only [netH, go_sem, Nat.reduceAdd, Nat.reduceMul, Nat.reduceSub, Nat.reduceLeDiff, Nat.reduceLT, Nat.reduceEqDiff, Nat.reduceBEq, Nat.reduceBNe, Int.reduceNeg, Int.reduceToNat, Int.reduceLT, Int.reduceLE, Int.reduceEq, Int.reduceAdd, Int.reduceMul, Int.reduceSub, Nat.reduceSucc, Nat.reduceGT, Nat.reducePow, Int.reducePow, reduceCtorEq, ↓reduceIte]
    refine awp_for [1, 2] (fun q : Nat × List Flt => [(5, .sl 1 0 q.2.length q.2.length), (6, .p (.int .i64 q.1))]) (fun q => netH n ++ [.elems 2 (q.2.map eF)]) (fun q => q.1 ≤ l.length ∧ FR (pF 20) (rng l.length 1 6 = true ∧ ∀ j, j < q.1 → typOk n l j) (1 + 9 * q.1) q.2) (fun q => l.length - q.1) (0, m) ⟨by simp, hm.to (by simp) (by simp)⟩ (Weak.mk ?_) ?_
    · simp (disch := omega) only [netH, go_sem, Nat.reduceAdd, Nat.reduceMul, Nat.reduceSub, Nat.reduceLeDiff, Nat.reduceLT, Nat.reduceEqDiff, Nat.reduceBEq, Nat.reduceBNe, Int.reduceNeg, Int.reduceToNat, Int.reduceLT, Int.reduceLE, Int.reduceEq, Int.reduceAdd, Int.reduceMul, Int.reduceSub, Nat.reduceSucc, Nat.reduceGT, Nat.reducePow, Int.reducePow, reduceCtorEq, ↓reduceIte]
    · clear hm
      rintro ⟨k, m⟩ ⟨hk, hm⟩
      simp only at hk hm
      have hml := hm.len
      simp (disch := omega) only [netH, go_sem, Nat.reduceAdd, Nat.reduceMul, Nat.reduceSub, Nat.reduceLeDiff, Nat.reduceLT, Nat.reduceEqDiff, Nat.reduceBEq, Nat.reduceBNe, Int.reduceNeg, Int.reduceToNat, Int.reduceLT, Int.reduceLE, Int.reduceEq, Int.reduceAdd, Int.reduceMul, Int.reduceSub, Nat.reduceSucc, Nat.reduceGT, Nat.reducePow, Int.reducePow, reduceCtorEq, ↓reduceIte]
      refine acond_b (fun h => ?_) (fun h => ?_) <;> (try simp only [decide_eq_true_eq, decide_eq_false_iff_not] at h) <;> simp (disch := omega) only [Sh.out h, go_sem, Nat.reduceAdd, Nat.reduceMul, Nat.reduceSub, Nat.reduceLeDiff, Nat.reduceLT, Nat.reduceEqDiff, Nat.reduceBEq, Nat.reduceBNe, Int.reduceNeg, Int.reduceToNat, Int.reduceLT, Int.reduceLE, Int.reduceEq, Int.reduceAdd, Int.reduceMul, Int.reduceSub, Nat.reduceSucc, Nat.reduceGT, Nat.reducePow, Int.reducePow, reduceCtorEq, ↓reduceIte]
      · have hk2 : k < l.length := by omega
        have hI : I64 (k : Int) := by omega
        have hdl := decI_len k hI
        refine ((rules10_c n l c k hk2 hl hw (hlw _ (nth_mem hk2))).frozenE).useV fun e he => ?_
        simp (disch := omega) only [go_sem, Nat.reduceAdd, Nat.reduceMul, Nat.reduceSub, Nat.reduceLeDiff, Nat.reduceLT, Nat.reduceEqDiff, Nat.reduceBEq, Nat.reduceBNe, Int.reduceNeg, Int.reduceToNat, Int.reduceLT, Int.reduceLE, Int.reduceEq, Int.reduceAdd, Int.reduceMul, Int.reduceSub, Nat.reduceSucc, Nat.reduceGT, Nat.reducePow, Int.reducePow, reduceCtorEq, ↓reduceIte]
        have hel := he.len
        refine awp_for [1, 2, 6, 7] (fun q : Nat × List Flt => [(5, .sl 1 0 q.2.length q.2.length), (8, .p (.int .i64 q.1))]) (fun q => netH n ++ [.elems 2 (q.2.map eF)]) (fun q => q.1 ≤ e.length ∧ FR (pF 20) ((rng l.length 1 6 = true ∧ ∀ j, j < k → typOk n l j) ∧ q.1 = 0) (1 + 9 * k + q.1) q.2) (fun q => e.length - q.1) (0, m) ⟨by simp, hm.to (by simp) (by simp)⟩ (Weak.mk ?_) ?_
        · simp (disch := omega) only [netH, go_sem, Nat.reduceAdd, Nat.reduceMul, Nat.reduceSub, Nat.reduceLeDiff, Nat.reduceLT, Nat.reduceEqDiff, Nat.reduceBEq, Nat.reduceBNe, Int.reduceNeg, Int.reduceToNat, Int.reduceLT, Int.reduceLE, Int.reduceEq, Int.reduceAdd, Int.reduceMul, Int.reduceSub, Nat.reduceSucc, Nat.reduceGT, Nat.reducePow, Int.reducePow, reduceCtorEq, ↓reduceIte]
        · clear hm hml
          rintro ⟨j, m⟩ ⟨hj, hm⟩
          simp only at hj hm
          have hml := hm.len
          simp (disch := omega) only [netH, go_sem, Nat.reduceAdd, Nat.reduceMul, Nat.reduceSub, Nat.reduceLeDiff, Nat.reduceLT, Nat.reduceEqDiff, Nat.reduceBEq, Nat.reduceBNe, Int.reduceNeg, Int.reduceToNat, Int.reduceLT, Int.reduceLE, Int.reduceEq, Int.reduceAdd, Int.reduceMul, Int.reduceSub, Nat.reduceSucc, Nat.reduceGT, Nat.reducePow, Int.reducePow, reduceCtorEq, ↓reduceIte]
          refine acond_b (fun h2 => ?_) (fun h2 => ?_) <;> (try simp only [decide_eq_true_eq, decide_eq_false_iff_not] at h2) <;> simp (disch := omega) only [Sh.out h2, go_sem, Nat.reduceAdd, Nat.reduceMul, Nat.reduceSub, Nat.reduceLeDiff, Nat.reduceLT, Nat.reduceEqDiff, Nat.reduceBEq, Nat.reduceBNe, Int.reduceNeg, Int.reduceToNat, Int.reduceLT, Int.reduceLE, Int.reduceEq, Int.reduceAdd, Int.reduceMul, Int.reduceSub, Nat.reduceSucc, Nat.reduceGT, Nat.reducePow, Int.reducePow, reduceCtorEq, ↓reduceIte]
          · have hj2 : j < e.length := by omega
            refine awp_drawnS 9 mixed (by kernel_rfl) (by kernel_rfl) ?_
            simp (disch := omega) only [go_sem, Nat.reduceAdd, Nat.reduceMul, Nat.reduceSub, Nat.reduceLeDiff, Nat.reduceLT, Nat.reduceEqDiff, Nat.reduceBEq, Nat.reduceBNe, Int.reduceNeg, Int.reduceToNat, Int.reduceLT, Int.reduceLE, Int.reduceEq, Int.reduceAdd, Int.reduceMul, Int.reduceSub, Nat.reduceSucc, Nat.reduceGT, Nat.reducePow, Int.reducePow, reduceCtorEq, ↓reduceIte]
            refine exq_call (dec01_c k hI) ?_
            simp (disch := omega) only [go_sem, Nat.reduceAdd, Nat.reduceMul, Nat.reduceSub, Nat.reduceLeDiff, Nat.reduceLT, Nat.reduceEqDiff, Nat.reduceBEq, Nat.reduceBNe, Int.reduceNeg, Int.reduceToNat, Int.reduceLT, Int.reduceLE, Int.reduceEq, Int.reduceAdd, Int.reduceMul, Int.reduceSub, Nat.reduceSucc, Nat.reduceGT, Nat.reducePow, Int.reducePow, reduceCtorEq, ↓reduceIte]
            exact ⟨(j + 1, m ++ [(nth e j, decI k)]), ⟨by simp only; omega, (hm.yes (c := False) (by simp) (by simpa [pF] using hdl)).to (by simp only; omega) (by simp)⟩, by simp only; omega, Weak.mk (by simp (disch := omega) only [netH, go_sem, Nat.reduceAdd, Nat.reduceMul, Nat.reduceSub, Nat.reduceLeDiff, Nat.reduceLT, Nat.reduceEqDiff, Nat.reduceBEq, Nat.reduceBNe, Int.reduceNeg, Int.reduceToNat, Int.reduceLT, Int.reduceLE, Int.reduceEq, Int.reduceAdd, Int.reduceMul, Int.reduceSub, Nat.reduceSucc, Nat.reduceGT, Nat.reducePow, Int.reducePow, reduceCtorEq, ↓reduceIte])⟩
          · have hjl : j = e.length := by omega
            subst hjl
            exact ⟨(k + 1, m), ⟨by simp only; omega, hm.to (by simp only; omega) (by simp only [upto_iff, and_assoc]; rw [← he.emp, List.eq_nil_iff_length_eq_zero])⟩, by simp only; omega, Weak.mk (by simp (disch := omega) only [netH, go_sem, Nat.reduceAdd, Nat.reduceMul, Nat.reduceSub, Nat.reduceLeDiff, Nat.reduceLT, Nat.reduceEqDiff, Nat.reduceBEq, Nat.reduceBNe, Int.reduceNeg, Int.reduceToNat, Int.reduceLT, Int.reduceLE, Int.reduceEq, Int.reduceAdd, Int.reduceMul, Int.reduceSub, Nat.reduceSucc, Nat.reduceGT, Nat.reducePow, Int.reducePow, reduceCtorEq, ↓reduceIte])⟩
      · have hkn : k = l.length := by omega
        subst hkn
        exact ⟨m, hm.to (by omega) (by rw [typesOk]), 1, by simp (disch := omega) only [netH, go_sem, Nat.reduceAdd, Nat.reduceMul, Nat.reduceSub, Nat.reduceLeDiff, Nat.reduceLT, Nat.reduceEqDiff, Nat.reduceBEq, Nat.reduceBNe, Int.reduceNeg, Int.reduceToNat, Int.reduceLT, Int.reduceLE, Int.reduceEq, Int.reduceAdd, Int.reduceMul, Int.reduceSub, Nat.reduceSucc, Nat.reduceGT, Nat.reducePow, Int.reducePow, reduceCtorEq, ↓reduceIte]⟩
end Go.Proofs.Ytlbhefiehkmhjaa.K
