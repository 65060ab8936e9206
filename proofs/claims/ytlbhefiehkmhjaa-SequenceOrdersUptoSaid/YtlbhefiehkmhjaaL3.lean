/- Contracts: the laws on sequences, without the specification. -/
import Derived.Test.YtlbhefiehkmhjaaL2
set_option linter.unusedVariables false
set_option linter.unusedSimpArgs false
namespace Go.Proofs.Ytlbhefiehkmhjaa.K
open Go Go.AM Go.Proofs
set_option maxRecDepth 8000
set_option maxHeartbeats 8000000

theorem lawOrders_c (a b c : List Vis) (ca cb cc : Bool) (ha : a.length ≤ 1048576) (hb : b.length ≤ 1048576) (hc : c.length ≤ 1048576) : ACalls Try.prog 8 [.p (.list ca (a.map eVis)), .p (.list cb (b.map eVis)), .p (.list cc (c.map eVis))] [] fun y H' => y = .p (.bool true) ∧ H' = [] := by
  have o1 := seqOrders_c ⟨0, 0, true, [], ca, a⟩ ha
  have o2 := rorders_c ⟨0, 0, true, [], ca, a⟩ ha
  generalize ordR (Rte.visits ⟨0, 0, true, [], ca, a⟩) = O at o1 o2
  have l1 := seqLess_c a b ca cb ha hb
  have l2 := rless_c a b ca cb ha hb
  have s1 := seqSame_c a b ca cb ha hb
  have s2 := rsame_c a b ca cb ha hb
  have lba := seqLess_c b a cb ca hb ha
  have lbc := seqLess_c b c cb cc hb hc
  have lac := seqLess_c a c ca cc ha hc
  have han := lex_anti a b
  have hz := lex_zero a b
  have htr := lex_trans a b c
  have h3 : (decide (lexC a b < 0) = true ∧ decide (lexC b a < 0) = false ∧ decide (a = b) = false) ∨ (decide (lexC a b < 0) = false ∧ decide (lexC b a < 0) = true ∧ decide (a = b) = false) ∨ (decide (lexC a b < 0) = false ∧ decide (lexC b a < 0) = false ∧ decide (a = b) = true) := by
    simp only [decide_eq_true_eq, decide_eq_false_iff_not, han, ← hz]
    omega
  have htr2 : decide (lexC a b < 0) = true → decide (lexC b c < 0) = true → decide (lexC a c < 0) = true := by simpa using htr
  generalize decide (lexC a b < 0) = A at l1 l2 h3 htr2
  generalize decide (lexC b a < 0) = B at lba h3
  generalize decide (a = b) = Z at s1 s2 h3
  generalize decide (lexC b c < 0) = L1 at lbc htr2
  generalize decide (lexC a c < 0) = L2 at lac htr2
  clear han hz htr
  refine acalls_pureC [8] (fn := Try.f8) Try.func8 rfl isF8 ?_
  simp (disch := omega) only [Try.f8, go_sem, Nat.reduceAdd, Nat.reduceMul, Nat.reduceSub, Nat.reduceLeDiff, Nat.reduceLT, Nat.reduceEqDiff, Nat.reduceBEq, Nat.reduceBNe, Int.reduceNeg, Int.reduceToNat, Int.reduceLT, Int.reduceLE, Int.reduceEq, Int.reduceAdd, Int.reduceMul, Int.reduceSub, Nat.reduceSucc, Nat.reduceGT, Nat.reducePow, Int.reducePow, reduceCtorEq, ↓reduceIte]
  refine aguard_f (fun h1 => ?_) (fun h1 => ?_) <;> (try simp only [decide_eq_true_eq, decide_eq_false_iff_not] at h1) <;> simp (disch := omega) only [Sh.out h1, go_sem, Nat.reduceAdd, Nat.reduceMul, Nat.reduceSub, Nat.reduceLeDiff, Nat.reduceLT, Nat.reduceEqDiff, Nat.reduceBEq, Nat.reduceBNe, Int.reduceNeg, Int.reduceToNat, Int.reduceLT, Int.reduceLE, Int.reduceEq, Int.reduceAdd, Int.reduceMul, Int.reduceSub, Nat.reduceSucc, Nat.reduceGT, Nat.reducePow, Int.reducePow, reduceCtorEq, ↓reduceIte]
  · refine (awake16_c).use ?_
    simp (disch := omega) only [go_sem, Nat.reduceAdd, Nat.reduceMul, Nat.reduceSub, Nat.reduceLeDiff, Nat.reduceLT, Nat.reduceEqDiff, Nat.reduceBEq, Nat.reduceBNe, Int.reduceNeg, Int.reduceToNat, Int.reduceLT, Int.reduceLE, Int.reduceEq, Int.reduceAdd, Int.reduceMul, Int.reduceSub, Nat.reduceSucc, Nat.reduceGT, Nat.reducePow, Int.reducePow, reduceCtorEq, ↓reduceIte]
  · refine aguard_f (fun h2 => ?_) (fun h2 => ?_) <;> (try simp only [decide_eq_true_eq, decide_eq_false_iff_not] at h2) <;> simp (disch := omega) only [Sh.out h2, go_sem, Nat.reduceAdd, Nat.reduceMul, Nat.reduceSub, Nat.reduceLeDiff, Nat.reduceLT, Nat.reduceEqDiff, Nat.reduceBEq, Nat.reduceBNe, Int.reduceNeg, Int.reduceToNat, Int.reduceLT, Int.reduceLE, Int.reduceEq, Int.reduceAdd, Int.reduceMul, Int.reduceSub, Nat.reduceSucc, Nat.reduceGT, Nat.reducePow, Int.reducePow, reduceCtorEq, ↓reduceIte]
    · refine (awake16_c).use ?_
      simp (disch := omega) only [go_sem, Nat.reduceAdd, Nat.reduceMul, Nat.reduceSub, Nat.reduceLeDiff, Nat.reduceLT, Nat.reduceEqDiff, Nat.reduceBEq, Nat.reduceBNe, Int.reduceNeg, Int.reduceToNat, Int.reduceLT, Int.reduceLE, Int.reduceEq, Int.reduceAdd, Int.reduceMul, Int.reduceSub, Nat.reduceSucc, Nat.reduceGT, Nat.reducePow, Int.reducePow, reduceCtorEq, ↓reduceIte]
    · refine acond_b (fun h5 => ?_) (fun h5 => ?_) <;> (try simp only [decide_eq_true_eq, decide_eq_false_iff_not] at h5) <;> simp (disch := omega) only [Sh.out h5, go_sem, Nat.reduceAdd, Nat.reduceMul, Nat.reduceSub, Nat.reduceLeDiff, Nat.reduceLT, Nat.reduceEqDiff, Nat.reduceBEq, Nat.reduceBNe, Int.reduceNeg, Int.reduceToNat, Int.reduceLT, Int.reduceLE, Int.reduceEq, Int.reduceAdd, Int.reduceMul, Int.reduceSub, Nat.reduceSucc, Nat.reduceGT, Nat.reducePow, Int.reducePow, reduceCtorEq, ↓reduceIte]
      · refine (awake16_c).use ?_
        simp (disch := omega) only [go_sem, Nat.reduceAdd, Nat.reduceMul, Nat.reduceSub, Nat.reduceLeDiff, Nat.reduceLT, Nat.reduceEqDiff, Nat.reduceBEq, Nat.reduceBNe, Int.reduceNeg, Int.reduceToNat, Int.reduceLT, Int.reduceLE, Int.reduceEq, Int.reduceAdd, Int.reduceMul, Int.reduceSub, Nat.reduceSucc, Nat.reduceGT, Nat.reducePow, Int.reducePow, reduceCtorEq, ↓reduceIte]
      · refine useT o1 ?_
        simp (disch := omega) only [go_sem, Nat.reduceAdd, Nat.reduceMul, Nat.reduceSub, Nat.reduceLeDiff, Nat.reduceLT, Nat.reduceEqDiff, Nat.reduceBEq, Nat.reduceBNe, Int.reduceNeg, Int.reduceToNat, Int.reduceLT, Int.reduceLE, Int.reduceEq, Int.reduceAdd, Int.reduceMul, Int.reduceSub, Nat.reduceSucc, Nat.reduceGT, Nat.reducePow, Int.reducePow, reduceCtorEq, ↓reduceIte]
        refine useT o2 ?_
        simp (disch := omega) only [go_sem, Nat.reduceAdd, Nat.reduceMul, Nat.reduceSub, Nat.reduceLeDiff, Nat.reduceLT, Nat.reduceEqDiff, Nat.reduceBEq, Nat.reduceBNe, Int.reduceNeg, Int.reduceToNat, Int.reduceLT, Int.reduceLE, Int.reduceEq, Int.reduceAdd, Int.reduceMul, Int.reduceSub, Nat.reduceSucc, Nat.reduceGT, Nat.reducePow, Int.reducePow, reduceCtorEq, ↓reduceIte]
        refine (l1).use ?_
        simp (disch := omega) only [go_sem, Nat.reduceAdd, Nat.reduceMul, Nat.reduceSub, Nat.reduceLeDiff, Nat.reduceLT, Nat.reduceEqDiff, Nat.reduceBEq, Nat.reduceBNe, Int.reduceNeg, Int.reduceToNat, Int.reduceLT, Int.reduceLE, Int.reduceEq, Int.reduceAdd, Int.reduceMul, Int.reduceSub, Nat.reduceSucc, Nat.reduceGT, Nat.reducePow, Int.reducePow, reduceCtorEq, ↓reduceIte]
        refine (l2).use ?_
        simp (disch := omega) only [go_sem, Nat.reduceAdd, Nat.reduceMul, Nat.reduceSub, Nat.reduceLeDiff, Nat.reduceLT, Nat.reduceEqDiff, Nat.reduceBEq, Nat.reduceBNe, Int.reduceNeg, Int.reduceToNat, Int.reduceLT, Int.reduceLE, Int.reduceEq, Int.reduceAdd, Int.reduceMul, Int.reduceSub, Nat.reduceSucc, Nat.reduceGT, Nat.reducePow, Int.reducePow, reduceCtorEq, ↓reduceIte]
        refine (s1).use ?_
        simp (disch := omega) only [go_sem, Nat.reduceAdd, Nat.reduceMul, Nat.reduceSub, Nat.reduceLeDiff, Nat.reduceLT, Nat.reduceEqDiff, Nat.reduceBEq, Nat.reduceBNe, Int.reduceNeg, Int.reduceToNat, Int.reduceLT, Int.reduceLE, Int.reduceEq, Int.reduceAdd, Int.reduceMul, Int.reduceSub, Nat.reduceSucc, Nat.reduceGT, Nat.reducePow, Int.reducePow, reduceCtorEq, ↓reduceIte]
        refine (s2).use ?_
        simp (disch := omega) only [go_sem, Nat.reduceAdd, Nat.reduceMul, Nat.reduceSub, Nat.reduceLeDiff, Nat.reduceLT, Nat.reduceEqDiff, Nat.reduceBEq, Nat.reduceBNe, Int.reduceNeg, Int.reduceToNat, Int.reduceLT, Int.reduceLE, Int.reduceEq, Int.reduceAdd, Int.reduceMul, Int.reduceSub, Nat.reduceSucc, Nat.reduceGT, Nat.reducePow, Int.reducePow, reduceCtorEq, ↓reduceIte]
        refine awp_sound [] _ _ _ _ ?_
        rcases h3 with ⟨rfl, rfl, rfl⟩ | ⟨rfl, rfl, rfl⟩ | ⟨rfl, rfl, rfl⟩
        · simp (disch := omega) only [go_sem, Nat.reduceAdd, Nat.reduceMul, Nat.reduceSub, Nat.reduceLeDiff, Nat.reduceLT, Nat.reduceEqDiff, Nat.reduceBEq, Nat.reduceBNe, Int.reduceNeg, Int.reduceToNat, Int.reduceLT, Int.reduceLE, Int.reduceEq, Int.reduceAdd, Int.reduceMul, Int.reduceSub, Nat.reduceSucc, Nat.reduceGT, Nat.reducePow, Int.reducePow, reduceCtorEq, ↓reduceIte]
          refine (l1).use ?_
          simp (disch := omega) only [go_sem, Nat.reduceAdd, Nat.reduceMul, Nat.reduceSub, Nat.reduceLeDiff, Nat.reduceLT, Nat.reduceEqDiff, Nat.reduceBEq, Nat.reduceBNe, Int.reduceNeg, Int.reduceToNat, Int.reduceLT, Int.reduceLE, Int.reduceEq, Int.reduceAdd, Int.reduceMul, Int.reduceSub, Nat.reduceSucc, Nat.reduceGT, Nat.reducePow, Int.reducePow, reduceCtorEq, ↓reduceIte]
          refine (lba).use ?_
          simp (disch := omega) only [go_sem, Nat.reduceAdd, Nat.reduceMul, Nat.reduceSub, Nat.reduceLeDiff, Nat.reduceLT, Nat.reduceEqDiff, Nat.reduceBEq, Nat.reduceBNe, Int.reduceNeg, Int.reduceToNat, Int.reduceLT, Int.reduceLE, Int.reduceEq, Int.reduceAdd, Int.reduceMul, Int.reduceSub, Nat.reduceSucc, Nat.reduceGT, Nat.reducePow, Int.reducePow, reduceCtorEq, ↓reduceIte]
          refine (s1).use ?_
          simp (disch := omega) only [go_sem, Nat.reduceAdd, Nat.reduceMul, Nat.reduceSub, Nat.reduceLeDiff, Nat.reduceLT, Nat.reduceEqDiff, Nat.reduceBEq, Nat.reduceBNe, Int.reduceNeg, Int.reduceToNat, Int.reduceLT, Int.reduceLE, Int.reduceEq, Int.reduceAdd, Int.reduceMul, Int.reduceSub, Nat.reduceSucc, Nat.reduceGT, Nat.reducePow, Int.reducePow, reduceCtorEq, ↓reduceIte]
          refine (l1).use ?_
          simp (disch := omega) only [go_sem, Nat.reduceAdd, Nat.reduceMul, Nat.reduceSub, Nat.reduceLeDiff, Nat.reduceLT, Nat.reduceEqDiff, Nat.reduceBEq, Nat.reduceBNe, Int.reduceNeg, Int.reduceToNat, Int.reduceLT, Int.reduceLE, Int.reduceEq, Int.reduceAdd, Int.reduceMul, Int.reduceSub, Nat.reduceSucc, Nat.reduceGT, Nat.reducePow, Int.reducePow, reduceCtorEq, ↓reduceIte]
          refine (lbc).use ?_
          simp (disch := omega) only [go_sem, Nat.reduceAdd, Nat.reduceMul, Nat.reduceSub, Nat.reduceLeDiff, Nat.reduceLT, Nat.reduceEqDiff, Nat.reduceBEq, Nat.reduceBNe, Int.reduceNeg, Int.reduceToNat, Int.reduceLT, Int.reduceLE, Int.reduceEq, Int.reduceAdd, Int.reduceMul, Int.reduceSub, Nat.reduceSucc, Nat.reduceGT, Nat.reducePow, Int.reducePow, reduceCtorEq, ↓reduceIte]
          cases L1 with
          | false =>
            simp (disch := omega) only [go_sem, Nat.reduceAdd, Nat.reduceMul, Nat.reduceSub, Nat.reduceLeDiff, Nat.reduceLT, Nat.reduceEqDiff, Nat.reduceBEq, Nat.reduceBNe, Int.reduceNeg, Int.reduceToNat, Int.reduceLT, Int.reduceLE, Int.reduceEq, Int.reduceAdd, Int.reduceMul, Int.reduceSub, Nat.reduceSucc, Nat.reduceGT, Nat.reducePow, Int.reducePow, reduceCtorEq, ↓reduceIte]
            refine (awake16_c).use ?_
            simp (disch := omega) only [go_sem, Nat.reduceAdd, Nat.reduceMul, Nat.reduceSub, Nat.reduceLeDiff, Nat.reduceLT, Nat.reduceEqDiff, Nat.reduceBEq, Nat.reduceBNe, Int.reduceNeg, Int.reduceToNat, Int.reduceLT, Int.reduceLE, Int.reduceEq, Int.reduceAdd, Int.reduceMul, Int.reduceSub, Nat.reduceSucc, Nat.reduceGT, Nat.reducePow, Int.reducePow, reduceCtorEq, ↓reduceIte]
          | true =>
            rw [htr2 rfl rfl] at lac
            simp (disch := omega) only [go_sem, Nat.reduceAdd, Nat.reduceMul, Nat.reduceSub, Nat.reduceLeDiff, Nat.reduceLT, Nat.reduceEqDiff, Nat.reduceBEq, Nat.reduceBNe, Int.reduceNeg, Int.reduceToNat, Int.reduceLT, Int.reduceLE, Int.reduceEq, Int.reduceAdd, Int.reduceMul, Int.reduceSub, Nat.reduceSucc, Nat.reduceGT, Nat.reducePow, Int.reducePow, reduceCtorEq, ↓reduceIte]
            refine (lac).use ?_
            simp (disch := omega) only [go_sem, Nat.reduceAdd, Nat.reduceMul, Nat.reduceSub, Nat.reduceLeDiff, Nat.reduceLT, Nat.reduceEqDiff, Nat.reduceBEq, Nat.reduceBNe, Int.reduceNeg, Int.reduceToNat, Int.reduceLT, Int.reduceLE, Int.reduceEq, Int.reduceAdd, Int.reduceMul, Int.reduceSub, Nat.reduceSucc, Nat.reduceGT, Nat.reducePow, Int.reducePow, reduceCtorEq, ↓reduceIte]
            refine (awake16_c).use ?_
            simp (disch := omega) only [go_sem, Nat.reduceAdd, Nat.reduceMul, Nat.reduceSub, Nat.reduceLeDiff, Nat.reduceLT, Nat.reduceEqDiff, Nat.reduceBEq, Nat.reduceBNe, Int.reduceNeg, Int.reduceToNat, Int.reduceLT, Int.reduceLE, Int.reduceEq, Int.reduceAdd, Int.reduceMul, Int.reduceSub, Nat.reduceSucc, Nat.reduceGT, Nat.reducePow, Int.reducePow, reduceCtorEq, ↓reduceIte]
        · simp (disch := omega) only [go_sem, Nat.reduceAdd, Nat.reduceMul, Nat.reduceSub, Nat.reduceLeDiff, Nat.reduceLT, Nat.reduceEqDiff, Nat.reduceBEq, Nat.reduceBNe, Int.reduceNeg, Int.reduceToNat, Int.reduceLT, Int.reduceLE, Int.reduceEq, Int.reduceAdd, Int.reduceMul, Int.reduceSub, Nat.reduceSucc, Nat.reduceGT, Nat.reducePow, Int.reducePow, reduceCtorEq, ↓reduceIte]
          refine (l1).use ?_
          simp (disch := omega) only [go_sem, Nat.reduceAdd, Nat.reduceMul, Nat.reduceSub, Nat.reduceLeDiff, Nat.reduceLT, Nat.reduceEqDiff, Nat.reduceBEq, Nat.reduceBNe, Int.reduceNeg, Int.reduceToNat, Int.reduceLT, Int.reduceLE, Int.reduceEq, Int.reduceAdd, Int.reduceMul, Int.reduceSub, Nat.reduceSucc, Nat.reduceGT, Nat.reducePow, Int.reducePow, reduceCtorEq, ↓reduceIte]
          refine (lba).use ?_
          simp (disch := omega) only [go_sem, Nat.reduceAdd, Nat.reduceMul, Nat.reduceSub, Nat.reduceLeDiff, Nat.reduceLT, Nat.reduceEqDiff, Nat.reduceBEq, Nat.reduceBNe, Int.reduceNeg, Int.reduceToNat, Int.reduceLT, Int.reduceLE, Int.reduceEq, Int.reduceAdd, Int.reduceMul, Int.reduceSub, Nat.reduceSucc, Nat.reduceGT, Nat.reducePow, Int.reducePow, reduceCtorEq, ↓reduceIte]
          refine (s1).use ?_
          simp (disch := omega) only [go_sem, Nat.reduceAdd, Nat.reduceMul, Nat.reduceSub, Nat.reduceLeDiff, Nat.reduceLT, Nat.reduceEqDiff, Nat.reduceBEq, Nat.reduceBNe, Int.reduceNeg, Int.reduceToNat, Int.reduceLT, Int.reduceLE, Int.reduceEq, Int.reduceAdd, Int.reduceMul, Int.reduceSub, Nat.reduceSucc, Nat.reduceGT, Nat.reducePow, Int.reducePow, reduceCtorEq, ↓reduceIte]
          refine (l1).use ?_
          simp (disch := omega) only [go_sem, Nat.reduceAdd, Nat.reduceMul, Nat.reduceSub, Nat.reduceLeDiff, Nat.reduceLT, Nat.reduceEqDiff, Nat.reduceBEq, Nat.reduceBNe, Int.reduceNeg, Int.reduceToNat, Int.reduceLT, Int.reduceLE, Int.reduceEq, Int.reduceAdd, Int.reduceMul, Int.reduceSub, Nat.reduceSucc, Nat.reduceGT, Nat.reducePow, Int.reducePow, reduceCtorEq, ↓reduceIte]
          refine (awake16_c).use ?_
          simp (disch := omega) only [go_sem, Nat.reduceAdd, Nat.reduceMul, Nat.reduceSub, Nat.reduceLeDiff, Nat.reduceLT, Nat.reduceEqDiff, Nat.reduceBEq, Nat.reduceBNe, Int.reduceNeg, Int.reduceToNat, Int.reduceLT, Int.reduceLE, Int.reduceEq, Int.reduceAdd, Int.reduceMul, Int.reduceSub, Nat.reduceSucc, Nat.reduceGT, Nat.reducePow, Int.reducePow, reduceCtorEq, ↓reduceIte]
        · simp (disch := omega) only [go_sem, Nat.reduceAdd, Nat.reduceMul, Nat.reduceSub, Nat.reduceLeDiff, Nat.reduceLT, Nat.reduceEqDiff, Nat.reduceBEq, Nat.reduceBNe, Int.reduceNeg, Int.reduceToNat, Int.reduceLT, Int.reduceLE, Int.reduceEq, Int.reduceAdd, Int.reduceMul, Int.reduceSub, Nat.reduceSucc, Nat.reduceGT, Nat.reducePow, Int.reducePow, reduceCtorEq, ↓reduceIte]
          refine (l1).use ?_
          simp (disch := omega) only [go_sem, Nat.reduceAdd, Nat.reduceMul, Nat.reduceSub, Nat.reduceLeDiff, Nat.reduceLT, Nat.reduceEqDiff, Nat.reduceBEq, Nat.reduceBNe, Int.reduceNeg, Int.reduceToNat, Int.reduceLT, Int.reduceLE, Int.reduceEq, Int.reduceAdd, Int.reduceMul, Int.reduceSub, Nat.reduceSucc, Nat.reduceGT, Nat.reducePow, Int.reducePow, reduceCtorEq, ↓reduceIte]
          refine (lba).use ?_
          simp (disch := omega) only [go_sem, Nat.reduceAdd, Nat.reduceMul, Nat.reduceSub, Nat.reduceLeDiff, Nat.reduceLT, Nat.reduceEqDiff, Nat.reduceBEq, Nat.reduceBNe, Int.reduceNeg, Int.reduceToNat, Int.reduceLT, Int.reduceLE, Int.reduceEq, Int.reduceAdd, Int.reduceMul, Int.reduceSub, Nat.reduceSucc, Nat.reduceGT, Nat.reducePow, Int.reducePow, reduceCtorEq, ↓reduceIte]
          refine (s1).use ?_
          simp (disch := omega) only [go_sem, Nat.reduceAdd, Nat.reduceMul, Nat.reduceSub, Nat.reduceLeDiff, Nat.reduceLT, Nat.reduceEqDiff, Nat.reduceBEq, Nat.reduceBNe, Int.reduceNeg, Int.reduceToNat, Int.reduceLT, Int.reduceLE, Int.reduceEq, Int.reduceAdd, Int.reduceMul, Int.reduceSub, Nat.reduceSucc, Nat.reduceGT, Nat.reducePow, Int.reducePow, reduceCtorEq, ↓reduceIte]
          refine (l1).use ?_
          simp (disch := omega) only [go_sem, Nat.reduceAdd, Nat.reduceMul, Nat.reduceSub, Nat.reduceLeDiff, Nat.reduceLT, Nat.reduceEqDiff, Nat.reduceBEq, Nat.reduceBNe, Int.reduceNeg, Int.reduceToNat, Int.reduceLT, Int.reduceLE, Int.reduceEq, Int.reduceAdd, Int.reduceMul, Int.reduceSub, Nat.reduceSucc, Nat.reduceGT, Nat.reducePow, Int.reducePow, reduceCtorEq, ↓reduceIte]
          refine (awake16_c).use ?_
          simp (disch := omega) only [go_sem, Nat.reduceAdd, Nat.reduceMul, Nat.reduceSub, Nat.reduceLeDiff, Nat.reduceLT, Nat.reduceEqDiff, Nat.reduceBEq, Nat.reduceBNe, Int.reduceNeg, Int.reduceToNat, Int.reduceLT, Int.reduceLE, Int.reduceEq, Int.reduceAdd, Int.reduceMul, Int.reduceSub, Nat.reduceSucc, Nat.reduceGT, Nat.reducePow, Int.reducePow, reduceCtorEq, ↓reduceIte]

theorem lawGrows_c (x : Inst) (hw : x.wf 1048576) (r : Rte) (hr : r.wf 1048576) : ACalls Try.prog 7 [.p (eInst x), .p (eRte r)] [] fun y H' => y = .p (.bool true) ∧ H' = [] := by
  have hap : x.apart.length ≤ 1048576 := hw.2.2.2.2.2.1
  have hbl : x.before.length ≤ 1048576 := hw.2.2.2.2.2.2.2.1
  have hvl : r.visits.length ≤ 1048576 := hr.2.2.2.2.1
  refine acalls_pure (fn := Try.f7) Try.func7 rfl isF7 ?_
  simp (disch := omega) only [Try.f7, go_sem, Nat.reduceAdd, Nat.reduceMul, Nat.reduceSub, Nat.reduceLeDiff, Nat.reduceLT, Nat.reduceEqDiff, Nat.reduceBEq, Nat.reduceBNe, Int.reduceNeg, Int.reduceToNat, Int.reduceLT, Int.reduceLE, Int.reduceEq, Int.reduceAdd, Int.reduceMul, Int.reduceSub, Nat.reduceSucc, Nat.reduceGT, Nat.reducePow, Int.reducePow, reduceCtorEq, ↓reduceIte]
  refine (few16_c x hw).useV fun b hb => ?_
  simp (disch := omega) only [go_sem, Nat.reduceAdd, Nat.reduceMul, Nat.reduceSub, Nat.reduceLeDiff, Nat.reduceLT, Nat.reduceEqDiff, Nat.reduceBEq, Nat.reduceBNe, Int.reduceNeg, Int.reduceToNat, Int.reduceLT, Int.reduceLE, Int.reduceEq, Int.reduceAdd, Int.reduceMul, Int.reduceSub, Nat.reduceSucc, Nat.reduceGT, Nat.reducePow, Int.reducePow, reduceCtorEq, ↓reduceIte]
  refine aguard_f (fun h => ?_) (fun h => ?_) <;> (try simp only [decide_eq_true_eq, decide_eq_false_iff_not] at h) <;> simp (disch := omega) only [Sh.out h, go_sem, Nat.reduceAdd, Nat.reduceMul, Nat.reduceSub, Nat.reduceLeDiff, Nat.reduceLT, Nat.reduceEqDiff, Nat.reduceBEq, Nat.reduceBNe, Int.reduceNeg, Int.reduceToNat, Int.reduceLT, Int.reduceLE, Int.reduceEq, Int.reduceAdd, Int.reduceMul, Int.reduceSub, Nat.reduceSucc, Nat.reduceGT, Nat.reducePow, Int.reducePow, reduceCtorEq, ↓reduceIte]
  · refine (awake16_c).use ?_
    simp (disch := omega) only [go_sem, Nat.reduceAdd, Nat.reduceMul, Nat.reduceSub, Nat.reduceLeDiff, Nat.reduceLT, Nat.reduceEqDiff, Nat.reduceBEq, Nat.reduceBNe, Int.reduceNeg, Int.reduceToNat, Int.reduceLT, Int.reduceLE, Int.reduceEq, Int.reduceAdd, Int.reduceMul, Int.reduceSub, Nat.reduceSucc, Nat.reduceGT, Nat.reducePow, Int.reducePow, reduceCtorEq, ↓reduceIte]
  · obtain ⟨hn, hok⟩ := hb.1 (by simpa using h)
    have hf := instFacts hok
    have hbb : ∀ p ∈ x.before, 0 ≤ p.1 ∧ p.1 < x.orders.length := fun p hp => ⟨(hf.val p hp).1, (hf.val p hp).2.1⟩
    refine aguard_f (fun h2 => ?_) (fun h2 => ?_) <;> (try simp only [decide_eq_true_eq, decide_eq_false_iff_not] at h2) <;> simp (disch := omega) only [Sh.out h2, go_sem, Nat.reduceAdd, Nat.reduceMul, Nat.reduceSub, Nat.reduceLeDiff, Nat.reduceLT, Nat.reduceEqDiff, Nat.reduceBEq, Nat.reduceBNe, Int.reduceNeg, Int.reduceToNat, Int.reduceLT, Int.reduceLE, Int.reduceEq, Int.reduceAdd, Int.reduceMul, Int.reduceSub, Nat.reduceSucc, Nat.reduceGT, Nat.reducePow, Int.reducePow, reduceCtorEq, ↓reduceIte]
    · refine (awake16_c).use ?_
      simp (disch := omega) only [go_sem, Nat.reduceAdd, Nat.reduceMul, Nat.reduceSub, Nat.reduceLeDiff, Nat.reduceLT, Nat.reduceEqDiff, Nat.reduceBEq, Nat.reduceBNe, Int.reduceNeg, Int.reduceToNat, Int.reduceLT, Int.reduceLE, Int.reduceEq, Int.reduceAdd, Int.reduceMul, Int.reduceSub, Nat.reduceSucc, Nat.reduceGT, Nat.reducePow, Int.reducePow, reduceCtorEq, ↓reduceIte]
    · refine (seqCheck_c x r (by omega) hvl hap hbl).use ?_
      simp (disch := omega) only [go_sem, Nat.reduceAdd, Nat.reduceMul, Nat.reduceSub, Nat.reduceLeDiff, Nat.reduceLT, Nat.reduceEqDiff, Nat.reduceBEq, Nat.reduceBNe, Int.reduceNeg, Int.reduceToNat, Int.reduceLT, Int.reduceLE, Int.reduceEq, Int.reduceAdd, Int.reduceMul, Int.reduceSub, Nat.reduceSucc, Nat.reduceGT, Nat.reducePow, Int.reducePow, reduceCtorEq, ↓reduceIte]
      refine acond_b (fun h3 => ?_) (fun h3 => ?_) <;> (try simp only [decide_eq_true_eq, decide_eq_false_iff_not] at h3) <;> simp (disch := omega) only [Sh.out h3, go_sem, Nat.reduceAdd, Nat.reduceMul, Nat.reduceSub, Nat.reduceLeDiff, Nat.reduceLT, Nat.reduceEqDiff, Nat.reduceBEq, Nat.reduceBNe, Int.reduceNeg, Int.reduceToNat, Int.reduceLT, Int.reduceLE, Int.reduceEq, Int.reduceAdd, Int.reduceMul, Int.reduceSub, Nat.reduceSucc, Nat.reduceGT, Nat.reducePow, Int.reducePow, reduceCtorEq, ↓reduceIte]
      · refine (awake16_c).use ?_
        simp (disch := omega) only [go_sem, Nat.reduceAdd, Nat.reduceMul, Nat.reduceSub, Nat.reduceLeDiff, Nat.reduceLT, Nat.reduceEqDiff, Nat.reduceBEq, Nat.reduceBNe, Int.reduceNeg, Int.reduceToNat, Int.reduceLT, Int.reduceLE, Int.reduceEq, Int.reduceAdd, Int.reduceMul, Int.reduceSub, Nat.reduceSucc, Nat.reduceGT, Nat.reducePow, Int.reducePow, reduceCtorEq, ↓reduceIte]
      · have hr := right_iff.1 (Classical.not_not.1 h3)
        have hS := (hr.lt hf).1
        have ho := seqOrders_c r hvl
        rw [hr.ord hf] at ho
        refine useT ho ?_
        simp (disch := omega) only [go_sem, Nat.reduceAdd, Nat.reduceMul, Nat.reduceSub, Nat.reduceLeDiff, Nat.reduceLT, Nat.reduceEqDiff, Nat.reduceBEq, Nat.reduceBNe, Int.reduceNeg, Int.reduceToNat, Int.reduceLT, Int.reduceLE, Int.reduceEq, Int.reduceAdd, Int.reduceMul, Int.reduceSub, Nat.reduceSucc, Nat.reduceGT, Nat.reducePow, Int.reducePow, reduceCtorEq, ↓reduceIte]
        refine awp_for [2, 3, 5, 6] (fun k : Nat => [(7, .p (.int .i64 k))]) (fun _ => [instO x, rteO r]) (fun k => k ≤ r.visits.length) (fun k => r.visits.length - k) 0 (by simp) (Weak.mk ?_) ?_
        · simp (disch := omega) only [instO, rteO, go_sem, Nat.reduceAdd, Nat.reduceMul, Nat.reduceSub, Nat.reduceLeDiff, Nat.reduceLT, Nat.reduceEqDiff, Nat.reduceBEq, Nat.reduceBNe, Int.reduceNeg, Int.reduceToNat, Int.reduceLT, Int.reduceLE, Int.reduceEq, Int.reduceAdd, Int.reduceMul, Int.reduceSub, Nat.reduceSucc, Nat.reduceGT, Nat.reducePow, Int.reducePow, reduceCtorEq, ↓reduceIte]
        · intro k hk
          simp (disch := omega) only [instO, rteO, go_sem, Nat.reduceAdd, Nat.reduceMul, Nat.reduceSub, Nat.reduceLeDiff, Nat.reduceLT, Nat.reduceEqDiff, Nat.reduceBEq, Nat.reduceBNe, Int.reduceNeg, Int.reduceToNat, Int.reduceLT, Int.reduceLE, Int.reduceEq, Int.reduceAdd, Int.reduceMul, Int.reduceSub, Nat.reduceSucc, Nat.reduceGT, Nat.reducePow, Int.reducePow, reduceCtorEq, ↓reduceIte]
          refine acond_b (fun h4 => ?_) (fun h4 => ?_) <;> (try simp only [decide_eq_true_eq, decide_eq_false_iff_not] at h4) <;> simp (disch := omega) only [Sh.out h4, go_sem, Nat.reduceAdd, Nat.reduceMul, Nat.reduceSub, Nat.reduceLeDiff, Nat.reduceLT, Nat.reduceEqDiff, Nat.reduceBEq, Nat.reduceBNe, Int.reduceNeg, Int.reduceToNat, Int.reduceLT, Int.reduceLE, Int.reduceEq, Int.reduceAdd, Int.reduceMul, Int.reduceSub, Nat.reduceSucc, Nat.reduceGT, Nat.reducePow, Int.reducePow, reduceCtorEq, ↓reduceIte]
          · have hk2 : k < r.visits.length := by omega
            have hg := hr.gr hf (k + 1) hk2
            have hat := hg.at k (by simp; omega)
            have e1 : nth (r.visits.take (k + 1)) k = nth r.visits k := by rw [nth_get (by simp; omega), nth_get hk2, List.getElem_take]
            have e2 : (r.visits.take (k + 1)).take k = r.visits.take k := by rw [List.take_take]; congr 1; omega
            rw [e1, e2] at hat
            have hnl := nextU_len x (ordS r.visits) (r.visits.take k) x.orders.length
            refine awp_drawnA mixed (by kernel_rfl) (by kernel_rfl) ?_
            simp (disch := omega) only [List.drop_zero, go_sem, Nat.reduceAdd, Nat.reduceMul, Nat.reduceSub, Nat.reduceLeDiff, Nat.reduceLT, Nat.reduceEqDiff, Nat.reduceBEq, Nat.reduceBNe, Int.reduceNeg, Int.reduceToNat, Int.reduceLT, Int.reduceLE, Int.reduceEq, Int.reduceAdd, Int.reduceMul, Int.reduceSub, Nat.reduceSucc, Nat.reduceGT, Nat.reducePow, Int.reducePow, reduceCtorEq, ↓reduceIte]
            refine exq_call (seqNext_c x (ordS r.visits) (r.visits.take k) _ hS (by simp; omega) (by omega) hbl hbb) ?_
            simp (disch := omega) only [go_sem, Nat.reduceAdd, Nat.reduceMul, Nat.reduceSub, Nat.reduceLeDiff, Nat.reduceLT, Nat.reduceEqDiff, Nat.reduceBEq, Nat.reduceBNe, Int.reduceNeg, Int.reduceToNat, Int.reduceLT, Int.reduceLE, Int.reduceEq, Int.reduceAdd, Int.reduceMul, Int.reduceSub, Nat.reduceSucc, Nat.reduceGT, Nat.reducePow, Int.reducePow, reduceCtorEq, ↓reduceIte]
            generalize nextU x (ordS r.visits) (r.visits.take k) x.orders.length = NX at hat hnl
            refine exq_call (rindex_c NX false (nth r.visits k) (by omega)) ?_
            simp (disch := omega) only [go_sem, Nat.reduceAdd, Nat.reduceMul, Nat.reduceSub, Nat.reduceLeDiff, Nat.reduceLT, Nat.reduceEqDiff, Nat.reduceBEq, Nat.reduceBNe, Int.reduceNeg, Int.reduceToNat, Int.reduceLT, Int.reduceLE, Int.reduceEq, Int.reduceAdd, Int.reduceMul, Int.reduceSub, Nat.reduceSucc, Nat.reduceGT, Nat.reducePow, Int.reducePow, reduceCtorEq, ↓reduceIte]
            refine acond_b (fun h5 => ?_) (fun h5 => ?_) <;> (try simp only [decide_eq_true_eq, decide_eq_false_iff_not] at h5) <;> simp (disch := omega) only [Sh.out h5, go_sem, Nat.reduceAdd, Nat.reduceMul, Nat.reduceSub, Nat.reduceLeDiff, Nat.reduceLT, Nat.reduceEqDiff, Nat.reduceBEq, Nat.reduceBNe, Int.reduceNeg, Int.reduceToNat, Int.reduceLT, Int.reduceLE, Int.reduceEq, Int.reduceAdd, Int.reduceMul, Int.reduceSub, Nat.reduceSucc, Nat.reduceGT, Nat.reducePow, Int.reducePow, reduceCtorEq, ↓reduceIte]
            · have := vIx_mem.2 hat; omega
            · exact ⟨k + 1, by omega, by omega, Weak.mk (by simp (disch := omega) only [instO, rteO, go_sem, Nat.reduceAdd, Nat.reduceMul, Nat.reduceSub, Nat.reduceLeDiff, Nat.reduceLT, Nat.reduceEqDiff, Nat.reduceBEq, Nat.reduceBNe, Int.reduceNeg, Int.reduceToNat, Int.reduceLT, Int.reduceLE, Int.reduceEq, Int.reduceAdd, Int.reduceMul, Int.reduceSub, Nat.reduceSucc, Nat.reduceGT, Nat.reducePow, Int.reducePow, reduceCtorEq, ↓reduceIte])⟩
          · have hkl : k = r.visits.length := by omega
            subst hkl
            have hg := hr.gr hf r.visits.length (Nat.le_refl _)
            rw [List.take_length] at hg
            have hnil := (hg.next_nil (hr.alw hf) (by omega) hf.val).2 (hr.len hf)
            have c1 := seqNext_c x (ordS r.visits) r.visits r.visits_c hS hvl (by omega) hbl hbb
            rw [hnil] at c1
            refine (c1).use ?_
            simp (disch := omega) only [go_sem, Nat.reduceAdd, Nat.reduceMul, Nat.reduceSub, Nat.reduceLeDiff, Nat.reduceLT, Nat.reduceEqDiff, Nat.reduceBEq, Nat.reduceBNe, Int.reduceNeg, Int.reduceToNat, Int.reduceLT, Int.reduceLE, Int.reduceEq, Int.reduceAdd, Int.reduceMul, Int.reduceSub, Nat.reduceSucc, Nat.reduceGT, Nat.reducePow, Int.reducePow, reduceCtorEq, ↓reduceIte]
            refine (awake16_c).use ?_
            simp (disch := omega) only [go_sem, Nat.reduceAdd, Nat.reduceMul, Nat.reduceSub, Nat.reduceLeDiff, Nat.reduceLT, Nat.reduceEqDiff, Nat.reduceBEq, Nat.reduceBNe, Int.reduceNeg, Int.reduceToNat, Int.reduceLT, Int.reduceLE, Int.reduceEq, Int.reduceAdd, Int.reduceMul, Int.reduceSub, Nat.reduceSucc, Nat.reduceGT, Nat.reducePow, Int.reducePow, reduceCtorEq, ↓reduceIte]

@[go_sem] theorem eL_eq (l : List Vis) : eL l = .list false (l.map eVis) := Eq.trans rfl rfl
theorem lawFinds_c (x : Inst) (hw : x.wf 1048576) (r : Rte) (hr : r.wf 1048576) : ACalls Try.prog 6 [.p (eInst x), .p (eRte r)] [] fun y H' => y = .p (.bool true) ∧ H' = [] := by
  have hap : x.apart.length ≤ 1048576 := hw.2.2.2.2.2.1
  have hbl : x.before.length ≤ 1048576 := hw.2.2.2.2.2.2.2.1
  have hvl : r.visits.length ≤ 1048576 := hr.2.2.2.2.1
  refine acalls_pure (fn := Try.f6) Try.func6 rfl isF6 ?_
  simp (disch := omega) only [Try.f6, go_sem, Nat.reduceAdd, Nat.reduceMul, Nat.reduceSub, Nat.reduceLeDiff, Nat.reduceLT, Nat.reduceEqDiff, Nat.reduceBEq, Nat.reduceBNe, Int.reduceNeg, Int.reduceToNat, Int.reduceLT, Int.reduceLE, Int.reduceEq, Int.reduceAdd, Int.reduceMul, Int.reduceSub, Nat.reduceSucc, Nat.reduceGT, Nat.reducePow, Int.reducePow, reduceCtorEq, ↓reduceIte]
  refine (few16_c x hw).useV fun b hb => ?_
  simp (disch := omega) only [go_sem, Nat.reduceAdd, Nat.reduceMul, Nat.reduceSub, Nat.reduceLeDiff, Nat.reduceLT, Nat.reduceEqDiff, Nat.reduceBEq, Nat.reduceBNe, Int.reduceNeg, Int.reduceToNat, Int.reduceLT, Int.reduceLE, Int.reduceEq, Int.reduceAdd, Int.reduceMul, Int.reduceSub, Nat.reduceSucc, Nat.reduceGT, Nat.reducePow, Int.reducePow, reduceCtorEq, ↓reduceIte]
  refine aguard_f (fun h => ?_) (fun h => ?_) <;> (try simp only [decide_eq_true_eq, decide_eq_false_iff_not] at h) <;> simp (disch := omega) only [Sh.out h, go_sem, Nat.reduceAdd, Nat.reduceMul, Nat.reduceSub, Nat.reduceLeDiff, Nat.reduceLT, Nat.reduceEqDiff, Nat.reduceBEq, Nat.reduceBNe, Int.reduceNeg, Int.reduceToNat, Int.reduceLT, Int.reduceLE, Int.reduceEq, Int.reduceAdd, Int.reduceMul, Int.reduceSub, Nat.reduceSucc, Nat.reduceGT, Nat.reducePow, Int.reducePow, reduceCtorEq, ↓reduceIte]
  · refine (awake16_c).use ?_
    simp (disch := omega) only [go_sem, Nat.reduceAdd, Nat.reduceMul, Nat.reduceSub, Nat.reduceLeDiff, Nat.reduceLT, Nat.reduceEqDiff, Nat.reduceBEq, Nat.reduceBNe, Int.reduceNeg, Int.reduceToNat, Int.reduceLT, Int.reduceLE, Int.reduceEq, Int.reduceAdd, Int.reduceMul, Int.reduceSub, Nat.reduceSucc, Nat.reduceGT, Nat.reducePow, Int.reducePow, reduceCtorEq, ↓reduceIte]
  · obtain ⟨hn, hok⟩ := hb.1 (by simpa using h)
    have hf := instFacts hok
    refine aguard_f (fun h2 => ?_) (fun h2 => ?_) <;> (try simp only [decide_eq_true_eq, decide_eq_false_iff_not] at h2) <;> simp (disch := omega) only [Sh.out h2, go_sem, Nat.reduceAdd, Nat.reduceMul, Nat.reduceSub, Nat.reduceLeDiff, Nat.reduceLT, Nat.reduceEqDiff, Nat.reduceBEq, Nat.reduceBNe, Int.reduceNeg, Int.reduceToNat, Int.reduceLT, Int.reduceLE, Int.reduceEq, Int.reduceAdd, Int.reduceMul, Int.reduceSub, Nat.reduceSucc, Nat.reduceGT, Nat.reducePow, Int.reducePow, reduceCtorEq, ↓reduceIte]
    · refine (awake16_c).use ?_
      simp (disch := omega) only [go_sem, Nat.reduceAdd, Nat.reduceMul, Nat.reduceSub, Nat.reduceLeDiff, Nat.reduceLT, Nat.reduceEqDiff, Nat.reduceBEq, Nat.reduceBNe, Int.reduceNeg, Int.reduceToNat, Int.reduceLT, Int.reduceLE, Int.reduceEq, Int.reduceAdd, Int.reduceMul, Int.reduceSub, Nat.reduceSucc, Nat.reduceGT, Nat.reducePow, Int.reducePow, reduceCtorEq, ↓reduceIte]
    · refine (seqCheck_c x r (by omega) hvl hap hbl).use ?_
      simp (disch := omega) only [go_sem, Nat.reduceAdd, Nat.reduceMul, Nat.reduceSub, Nat.reduceLeDiff, Nat.reduceLT, Nat.reduceEqDiff, Nat.reduceBEq, Nat.reduceBNe, Int.reduceNeg, Int.reduceToNat, Int.reduceLT, Int.reduceLE, Int.reduceEq, Int.reduceAdd, Int.reduceMul, Int.reduceSub, Nat.reduceSucc, Nat.reduceGT, Nat.reducePow, Int.reducePow, reduceCtorEq, ↓reduceIte]
      refine acond_b (fun h3 => ?_) (fun h3 => ?_) <;> (try simp only [decide_eq_true_eq, decide_eq_false_iff_not] at h3) <;> simp (disch := omega) only [Sh.out h3, go_sem, Nat.reduceAdd, Nat.reduceMul, Nat.reduceSub, Nat.reduceLeDiff, Nat.reduceLT, Nat.reduceEqDiff, Nat.reduceBEq, Nat.reduceBNe, Int.reduceNeg, Int.reduceToNat, Int.reduceLT, Int.reduceLE, Int.reduceEq, Int.reduceAdd, Int.reduceMul, Int.reduceSub, Nat.reduceSucc, Nat.reduceGT, Nat.reducePow, Int.reducePow, reduceCtorEq, ↓reduceIte]
      · refine (awake16_c).use ?_
        simp (disch := omega) only [go_sem, Nat.reduceAdd, Nat.reduceMul, Nat.reduceSub, Nat.reduceLeDiff, Nat.reduceLT, Nat.reduceEqDiff, Nat.reduceBEq, Nat.reduceBNe, Int.reduceNeg, Int.reduceToNat, Int.reduceLT, Int.reduceLE, Int.reduceEq, Int.reduceAdd, Int.reduceMul, Int.reduceSub, Nat.reduceSucc, Nat.reduceGT, Nat.reducePow, Int.reducePow, reduceCtorEq, ↓reduceIte]
      · have hr := right_iff.1 (Classical.not_not.1 h3)
        obtain ⟨hS, hSn⟩ := hr.lt hf
        have ho := seqOrders_c r hvl
        rw [hr.ord hf] at ho
        have ha := hr.alw hf
        have hg := hr.gr hf r.visits.length (Nat.le_refl _)
        rw [List.take_length] at hg
        have hlen := hr.len hf
        have hpos := tot_pos hf.vne hSn
        have hs0 : ordS r.visits ≠ 0 := fun e => by
          obtain ⟨v, hv⟩ := List.exists_mem_of_ne_nil _ hr.ne
          obtain ⟨i, i1, _⟩ := hr.pairs hv
          have := (hr.bit i).2 ⟨v, hv, i1⟩
          rw [e] at this; simp at this
        have hall : allR x (ordS r.visits) = (seqs (fun l => nextU x (ordS r.visits) l x.orders.length) (totU x (ordS r.visits) x.orders.length) [], 0) := by
          have hw := walk_seqs (nx := fun l => nextU x (ordS r.visits) l x.orders.length) (totU x (ordS r.visits) x.orders.length) [] [] (by simp)
          have hk : (walk (fun l => nextU x (ordS r.visits) l x.orders.length) (totU x (ordS r.visits) x.orders.length) [] []).2 = true := by
            rw [hw.1]; have := seqs_few (x := x) (S := ordS r.visits) hn; simpa using this
          rw [allR, if_neg (by omega), if_neg (by rw [(forb_iff (by omega) hSn hf.val).2 ha]; simpa using hs0), if_pos hk, hw.2 hk, List.nil_append]
        have hfew := seqs_few (x := x) (S := ordS r.visits) hn
        have hin := gr_seqs hg (totU x (ordS r.visits) x.orders.length) 0 (by omega)
        rw [List.take_zero] at hin
        have hasc := seqs_asc (nx := fun l => nextU x (ordS r.visits) l x.orders.length) (fun l => nextU_asc x (ordS r.visits) l _) (totU x (ordS r.visits) x.orders.length) []
        have hgood : ∀ m ∈ seqs (fun l => nextU x (ordS r.visits) l x.orders.length) (totU x (ordS r.visits) x.orders.length) [], RightV x m ∧ ordS m = ordS r.visits ∧ m.length ≤ 1048576 := fun m hm => by
          obtain ⟨g1, g2⟩ := seqs_gr _ _ _ .nil hm
          have h5 := totU_le x (ordS r.visits) x.orders.length
          have := g1.right hf ha hs0 hSn (by simpa using g2)
          exact ⟨this.1, this.2, by simp at g2; omega⟩
        have hsa := seqAll_c x (ordS r.visits) hS (by omega) hap hbl hf.val (fun h1 h2 => tot_pos hf.vne h2 h1)
        rw [hall] at hsa
        generalize seqs (fun l => nextU x (ordS r.visits) l x.orders.length) (totU x (ordS r.visits) x.orders.length) [] = L at hsa hfew hin hasc hgood
        refine useT ho ?_
        simp (disch := omega) only [go_sem, Nat.reduceAdd, Nat.reduceMul, Nat.reduceSub, Nat.reduceLeDiff, Nat.reduceLT, Nat.reduceEqDiff, Nat.reduceBEq, Nat.reduceBNe, Int.reduceNeg, Int.reduceToNat, Int.reduceLT, Int.reduceLE, Int.reduceEq, Int.reduceAdd, Int.reduceMul, Int.reduceSub, Nat.reduceSucc, Nat.reduceGT, Nat.reducePow, Int.reducePow, reduceCtorEq, ↓reduceIte]
        refine useT2 hsa fun cl => ?_
        simp (disch := omega) only [go_sem, Nat.reduceAdd, Nat.reduceMul, Nat.reduceSub, Nat.reduceLeDiff, Nat.reduceLT, Nat.reduceEqDiff, Nat.reduceBEq, Nat.reduceBNe, Int.reduceNeg, Int.reduceToNat, Int.reduceLT, Int.reduceLE, Int.reduceEq, Int.reduceAdd, Int.reduceMul, Int.reduceSub, Nat.reduceSucc, Nat.reduceGT, Nat.reducePow, Int.reducePow, reduceCtorEq, ↓reduceIte]
        refine awp_for [2, 3, 5, 7] (fun k : Nat => [(9, .p (.bool (decide (r.visits ∈ L.take k)))), (10, .p (.int .i64 k))]) (fun _ => [instO x, rteO r]) (fun k => k ≤ L.length) (fun k => L.length - k) 0 (by simp) (Weak.mk ?_) ?_
        · simp (disch := omega) only [instO, rteO, go_sem, Nat.reduceAdd, Nat.reduceMul, Nat.reduceSub, Nat.reduceLeDiff, Nat.reduceLT, Nat.reduceEqDiff, Nat.reduceBEq, Nat.reduceBNe, Int.reduceNeg, Int.reduceToNat, Int.reduceLT, Int.reduceLE, Int.reduceEq, Int.reduceAdd, Int.reduceMul, Int.reduceSub, Nat.reduceSucc, Nat.reduceGT, Nat.reducePow, Int.reducePow, reduceCtorEq, ↓reduceIte]
          simp
        · intro k hk
          simp (disch := omega) only [instO, rteO, go_sem, Nat.reduceAdd, Nat.reduceMul, Nat.reduceSub, Nat.reduceLeDiff, Nat.reduceLT, Nat.reduceEqDiff, Nat.reduceBEq, Nat.reduceBNe, Int.reduceNeg, Int.reduceToNat, Int.reduceLT, Int.reduceLE, Int.reduceEq, Int.reduceAdd, Int.reduceMul, Int.reduceSub, Nat.reduceSucc, Nat.reduceGT, Nat.reducePow, Int.reducePow, reduceCtorEq, ↓reduceIte]
          refine acond_b (fun h4 => ?_) (fun h4 => ?_) <;> (try simp only [decide_eq_true_eq, decide_eq_false_iff_not] at h4) <;> simp (disch := omega) only [Sh.out h4, go_sem, Nat.reduceAdd, Nat.reduceMul, Nat.reduceSub, Nat.reduceLeDiff, Nat.reduceLT, Nat.reduceEqDiff, Nat.reduceBEq, Nat.reduceBNe, Int.reduceNeg, Int.reduceToNat, Int.reduceLT, Int.reduceLE, Int.reduceEq, Int.reduceAdd, Int.reduceMul, Int.reduceSub, Nat.reduceSucc, Nat.reduceGT, Nat.reducePow, Int.reducePow, reduceCtorEq, ↓reduceIte]
          · have hk2 : k < L.length := by omega
            obtain ⟨g1, g2, g3⟩ := hgood _ (nth_mem hk2)
            have o1 := seqOrders_c ⟨0, 0, true, [], false, nth L k⟩ g3
            have o2 : ordR (Rte.visits ⟨0, 0, true, [], false, nth L k⟩) = (((ordS r.visits : Nat) : Int), 0) := by rw [← g2]; exact g1.ord hf
            rw [o2] at o1
            have c1 := seqCheck_c x ⟨0, 0, true, [], false, nth L k⟩ (by omega) g3 hap hbl
            rw [show seqChk x (Rte.visits ⟨0, 0, true, [], false, nth L k⟩) = 0 from right_iff.2 g1] at c1
            refine useT o1 ?_
            simp (disch := omega) only [go_sem, Nat.reduceAdd, Nat.reduceMul, Nat.reduceSub, Nat.reduceLeDiff, Nat.reduceLT, Nat.reduceEqDiff, Nat.reduceBEq, Nat.reduceBNe, Int.reduceNeg, Int.reduceToNat, Int.reduceLT, Int.reduceLE, Int.reduceEq, Int.reduceAdd, Int.reduceMul, Int.reduceSub, Nat.reduceSucc, Nat.reduceGT, Nat.reducePow, Int.reducePow, reduceCtorEq, ↓reduceIte]
            have htk : L.take (k + 1) = L.take k ++ [nth L k] := by rw [List.take_succ_eq_append_getElem hk2, nth_get hk2]
            have hfound : decide (r.visits ∈ L.take (k + 1)) = (decide (r.visits ∈ L.take k) || decide (nth L k = r.visits)) := by
              rw [Bool.eq_iff_iff, htk]
              simp only [decide_eq_true_eq, List.mem_append, List.mem_singleton, Bool.or_eq_true]
              exact or_congr Iff.rfl eq_comm
            have hsame := seqSame_c (nth L k) r.visits false r.visits_c g3 hvl
            have hgo : decide (r.visits ∈ L.take k) = true → decide (r.visits ∈ L.take (k + 1)) = true := fun e => by rw [hfound, e]; rfl
            have hgo2 : decide (r.visits ∈ L.take k) = false → decide (r.visits ∈ L.take (k + 1)) = decide (nth L k = r.visits) := fun e => by rw [hfound, e]; rfl
            generalize decide (r.visits ∈ L.take k) = F1 at hgo hgo2 ⊢
            refine awp_drawnA mixed (by kernel_rfl) (by kernel_rfl) ?_
            simp (disch := omega) only [eL, go_sem, Nat.reduceAdd, Nat.reduceMul, Nat.reduceSub, Nat.reduceLeDiff, Nat.reduceLT, Nat.reduceEqDiff, Nat.reduceBEq, Nat.reduceBNe, Int.reduceNeg, Int.reduceToNat, Int.reduceLT, Int.reduceLE, Int.reduceEq, Int.reduceAdd, Int.reduceMul, Int.reduceSub, Nat.reduceSucc, Nat.reduceGT, Nat.reducePow, Int.reducePow, reduceCtorEq, ↓reduceIte]
            refine exq_call (c1) ?_
            simp (disch := omega) only [go_sem, Nat.reduceAdd, Nat.reduceMul, Nat.reduceSub, Nat.reduceLeDiff, Nat.reduceLT, Nat.reduceEqDiff, Nat.reduceBEq, Nat.reduceBNe, Int.reduceNeg, Int.reduceToNat, Int.reduceLT, Int.reduceLE, Int.reduceEq, Int.reduceAdd, Int.reduceMul, Int.reduceSub, Nat.reduceSucc, Nat.reduceGT, Nat.reducePow, Int.reducePow, reduceCtorEq, ↓reduceIte]
            refine aguard_t (fun h5 => ?_) (fun h5 => ?_) <;> (try simp only [decide_eq_true_eq, decide_eq_false_iff_not] at h5) <;> simp (disch := omega) only [Sh.out h5, go_sem, Nat.reduceAdd, Nat.reduceMul, Nat.reduceSub, Nat.reduceLeDiff, Nat.reduceLT, Nat.reduceEqDiff, Nat.reduceBEq, Nat.reduceBNe, Int.reduceNeg, Int.reduceToNat, Int.reduceLT, Int.reduceLE, Int.reduceEq, Int.reduceAdd, Int.reduceMul, Int.reduceSub, Nat.reduceSucc, Nat.reduceGT, Nat.reducePow, Int.reducePow, reduceCtorEq, ↓reduceIte]
            · have hj : k - 1 < L.length := by omega
              have hlt : lexC (nth L (k - 1)) (nth L k) < 0 := by
                rw [nth_get hj, nth_get hk2]
                exact (List.pairwise_iff_getElem.1 hasc) (k - 1) k hj hk2 (by omega)
              have l1 := seqLess_c (nth L (k - 1)) (nth L k) false false (hgood _ (nth_mem hj)).2.2 g3
              rw [show decide (lexC (nth L (k - 1)) (nth L k) < 0) = true from by simpa using hlt] at l1
              refine exq_call (l1) ?_
              simp (disch := omega) only [go_sem, Nat.reduceAdd, Nat.reduceMul, Nat.reduceSub, Nat.reduceLeDiff, Nat.reduceLT, Nat.reduceEqDiff, Nat.reduceBEq, Nat.reduceBNe, Int.reduceNeg, Int.reduceToNat, Int.reduceLT, Int.reduceLE, Int.reduceEq, Int.reduceAdd, Int.reduceMul, Int.reduceSub, Nat.reduceSucc, Nat.reduceGT, Nat.reducePow, Int.reducePow, reduceCtorEq, ↓reduceIte]
              refine awp_drawnS 10 mixed (by kernel_rfl) (by kernel_rfl) ?_
              simp (disch := omega) only [eL, go_sem, Nat.reduceAdd, Nat.reduceMul, Nat.reduceSub, Nat.reduceLeDiff, Nat.reduceLT, Nat.reduceEqDiff, Nat.reduceBEq, Nat.reduceBNe, Int.reduceNeg, Int.reduceToNat, Int.reduceLT, Int.reduceLE, Int.reduceEq, Int.reduceAdd, Int.reduceMul, Int.reduceSub, Nat.reduceSucc, Nat.reduceGT, Nat.reducePow, Int.reducePow, reduceCtorEq, ↓reduceIte]
              cases F1 with
              | true =>
                simp (disch := omega) only [go_sem, Nat.reduceAdd, Nat.reduceMul, Nat.reduceSub, Nat.reduceLeDiff, Nat.reduceLT, Nat.reduceEqDiff, Nat.reduceBEq, Nat.reduceBNe, Int.reduceNeg, Int.reduceToNat, Int.reduceLT, Int.reduceLE, Int.reduceEq, Int.reduceAdd, Int.reduceMul, Int.reduceSub, Nat.reduceSucc, Nat.reduceGT, Nat.reducePow, Int.reducePow, reduceCtorEq, ↓reduceIte]
                refine ⟨k + 1, by omega, by omega, Weak.mk ?_⟩
                simp (disch := omega) only [instO, rteO, hgo rfl, go_sem, Nat.reduceAdd, Nat.reduceMul, Nat.reduceSub, Nat.reduceLeDiff, Nat.reduceLT, Nat.reduceEqDiff, Nat.reduceBEq, Nat.reduceBNe, Int.reduceNeg, Int.reduceToNat, Int.reduceLT, Int.reduceLE, Int.reduceEq, Int.reduceAdd, Int.reduceMul, Int.reduceSub, Nat.reduceSucc, Nat.reduceGT, Nat.reducePow, Int.reducePow, reduceCtorEq, ↓reduceIte]
              | false =>
                simp (disch := omega) only [go_sem, Nat.reduceAdd, Nat.reduceMul, Nat.reduceSub, Nat.reduceLeDiff, Nat.reduceLT, Nat.reduceEqDiff, Nat.reduceBEq, Nat.reduceBNe, Int.reduceNeg, Int.reduceToNat, Int.reduceLT, Int.reduceLE, Int.reduceEq, Int.reduceAdd, Int.reduceMul, Int.reduceSub, Nat.reduceSucc, Nat.reduceGT, Nat.reducePow, Int.reducePow, reduceCtorEq, ↓reduceIte]
                refine exq_call (hsame) ?_
                simp (disch := omega) only [go_sem, Nat.reduceAdd, Nat.reduceMul, Nat.reduceSub, Nat.reduceLeDiff, Nat.reduceLT, Nat.reduceEqDiff, Nat.reduceBEq, Nat.reduceBNe, Int.reduceNeg, Int.reduceToNat, Int.reduceLT, Int.reduceLE, Int.reduceEq, Int.reduceAdd, Int.reduceMul, Int.reduceSub, Nat.reduceSucc, Nat.reduceGT, Nat.reducePow, Int.reducePow, reduceCtorEq, ↓reduceIte]
                refine ⟨k + 1, by omega, by omega, Weak.mk ?_⟩
                simp (disch := omega) only [instO, rteO, hgo2 rfl, go_sem, Nat.reduceAdd, Nat.reduceMul, Nat.reduceSub, Nat.reduceLeDiff, Nat.reduceLT, Nat.reduceEqDiff, Nat.reduceBEq, Nat.reduceBNe, Int.reduceNeg, Int.reduceToNat, Int.reduceLT, Int.reduceLE, Int.reduceEq, Int.reduceAdd, Int.reduceMul, Int.reduceSub, Nat.reduceSucc, Nat.reduceGT, Nat.reducePow, Int.reducePow, reduceCtorEq, ↓reduceIte]
            · refine awp_drawnS 10 mixed (by kernel_rfl) (by kernel_rfl) ?_
              simp (disch := omega) only [eL, go_sem, Nat.reduceAdd, Nat.reduceMul, Nat.reduceSub, Nat.reduceLeDiff, Nat.reduceLT, Nat.reduceEqDiff, Nat.reduceBEq, Nat.reduceBNe, Int.reduceNeg, Int.reduceToNat, Int.reduceLT, Int.reduceLE, Int.reduceEq, Int.reduceAdd, Int.reduceMul, Int.reduceSub, Nat.reduceSucc, Nat.reduceGT, Nat.reducePow, Int.reducePow, reduceCtorEq, ↓reduceIte]
              cases F1 with
              | true =>
                simp (disch := omega) only [go_sem, Nat.reduceAdd, Nat.reduceMul, Nat.reduceSub, Nat.reduceLeDiff, Nat.reduceLT, Nat.reduceEqDiff, Nat.reduceBEq, Nat.reduceBNe, Int.reduceNeg, Int.reduceToNat, Int.reduceLT, Int.reduceLE, Int.reduceEq, Int.reduceAdd, Int.reduceMul, Int.reduceSub, Nat.reduceSucc, Nat.reduceGT, Nat.reducePow, Int.reducePow, reduceCtorEq, ↓reduceIte]
                refine ⟨k + 1, by omega, by omega, Weak.mk ?_⟩
                simp (disch := omega) only [instO, rteO, hgo rfl, go_sem, Nat.reduceAdd, Nat.reduceMul, Nat.reduceSub, Nat.reduceLeDiff, Nat.reduceLT, Nat.reduceEqDiff, Nat.reduceBEq, Nat.reduceBNe, Int.reduceNeg, Int.reduceToNat, Int.reduceLT, Int.reduceLE, Int.reduceEq, Int.reduceAdd, Int.reduceMul, Int.reduceSub, Nat.reduceSucc, Nat.reduceGT, Nat.reducePow, Int.reducePow, reduceCtorEq, ↓reduceIte]
              | false =>
                simp (disch := omega) only [go_sem, Nat.reduceAdd, Nat.reduceMul, Nat.reduceSub, Nat.reduceLeDiff, Nat.reduceLT, Nat.reduceEqDiff, Nat.reduceBEq, Nat.reduceBNe, Int.reduceNeg, Int.reduceToNat, Int.reduceLT, Int.reduceLE, Int.reduceEq, Int.reduceAdd, Int.reduceMul, Int.reduceSub, Nat.reduceSucc, Nat.reduceGT, Nat.reducePow, Int.reducePow, reduceCtorEq, ↓reduceIte]
                refine exq_call (hsame) ?_
                simp (disch := omega) only [go_sem, Nat.reduceAdd, Nat.reduceMul, Nat.reduceSub, Nat.reduceLeDiff, Nat.reduceLT, Nat.reduceEqDiff, Nat.reduceBEq, Nat.reduceBNe, Int.reduceNeg, Int.reduceToNat, Int.reduceLT, Int.reduceLE, Int.reduceEq, Int.reduceAdd, Int.reduceMul, Int.reduceSub, Nat.reduceSucc, Nat.reduceGT, Nat.reducePow, Int.reducePow, reduceCtorEq, ↓reduceIte]
                refine ⟨k + 1, by omega, by omega, Weak.mk ?_⟩
                simp (disch := omega) only [instO, rteO, hgo2 rfl, go_sem, Nat.reduceAdd, Nat.reduceMul, Nat.reduceSub, Nat.reduceLeDiff, Nat.reduceLT, Nat.reduceEqDiff, Nat.reduceBEq, Nat.reduceBNe, Int.reduceNeg, Int.reduceToNat, Int.reduceLT, Int.reduceLE, Int.reduceEq, Int.reduceAdd, Int.reduceMul, Int.reduceSub, Nat.reduceSucc, Nat.reduceGT, Nat.reducePow, Int.reducePow, reduceCtorEq, ↓reduceIte]
          · have hkl : k = L.length := by omega
            subst hkl
            rw [List.take_length]
            have : decide (r.visits ∈ L) = true := by simpa using hin
            rw [this]
            simp (disch := omega) only [go_sem, Nat.reduceAdd, Nat.reduceMul, Nat.reduceSub, Nat.reduceLeDiff, Nat.reduceLT, Nat.reduceEqDiff, Nat.reduceBEq, Nat.reduceBNe, Int.reduceNeg, Int.reduceToNat, Int.reduceLT, Int.reduceLE, Int.reduceEq, Int.reduceAdd, Int.reduceMul, Int.reduceSub, Nat.reduceSucc, Nat.reduceGT, Nat.reducePow, Int.reducePow, reduceCtorEq, ↓reduceIte]
            refine (awake16_c).use ?_
            simp (disch := omega) only [go_sem, Nat.reduceAdd, Nat.reduceMul, Nat.reduceSub, Nat.reduceLeDiff, Nat.reduceLT, Nat.reduceEqDiff, Nat.reduceBEq, Nat.reduceBNe, Int.reduceNeg, Int.reduceToNat, Int.reduceLT, Int.reduceLE, Int.reduceEq, Int.reduceAdd, Int.reduceMul, Int.reduceSub, Nat.reduceSucc, Nat.reduceGT, Nat.reducePow, Int.reducePow, reduceCtorEq, ↓reduceIte]
end Go.Proofs.Ytlbhefiehkmhjaa.K
