/- Contracts: Closure, Needs. -/
import Derived.Test.YtalmcdllbibknaaC6
set_option linter.unusedVariables false
set_option linter.unusedSimpArgs false
namespace Go.Proofs.Ytalmcdllbibknaa.K
open Go Go.AM Go.Proofs
set_option maxRecDepth 8000
set_option maxHeartbeats 4000000

theorem sHas_nat (s i : Nat) (hi : i ≤ 62) : sHas (s : Int) (i : Int) = s.testBit i := by
  rw [hv_bit, hv]
  have h1 : (0 : Int) ≤ i := by omega
  have h2 : (i : Int) ≤ 62 := by omega
  simp only [sHas, h1, h2, decide_true, Bool.true_and, Int.toNat_natCast]
  have e : ((s : Int)).fdiv (2 ^ i) = ((s / pw i : Nat) : Int) := by
    have : (2 : Int) ^ i = ((pw i : Nat) : Int) := by simp [pw]
    rw [this, Int.fdiv_eq_ediv_of_nonneg _ (by omega)]
    simp
  simp only [e]
  rw [Bool.eq_iff_iff]
  simp only [decide_eq_true_eq]
  omega

/-- the pairs (a, b), b < m, of a row of sets -/
def clA (l : List Nat) (a m : Nat) : List (Int × Int) := ((List.range m).filter fun b => (nth l b).testBit a).map fun (b : Nat) => ((a : Int), (b : Int))
def clU (l : List Nat) (a : Nat) : List (Int × Int) := (List.range a).flatMap fun a => clA l a l.length
theorem clA_zero (l a) : clA l a 0 = [] := by simp [clA]
theorem clA_yes {l a m} (h : (nth l m).testBit a = true) : clA l a (m + 1) = clA l a m ++ [((a : Int), (m : Int))] := by simp [clA, List.range_succ, List.filter_append, h]
theorem clA_no {l a m} (h : (nth l m).testBit a = false) : clA l a (m + 1) = clA l a m := by simp [clA, List.range_succ, List.filter_append, h]
theorem clA_len (l a m) : (clA l a m).length ≤ m := by
  simp only [clA, List.length_map]; exact Nat.le_trans (List.length_filter_le _ _) (by simp)
theorem clU_zero (l) : clU l 0 = [] := by simp [clU]
theorem clU_succ (l a) : clU l (a + 1) = clU l a ++ clA l a l.length := by simp [clU, List.range_succ, List.flatMap_append]
theorem clU_len (l : List Nat) : ∀ a, (clU l a).length ≤ a * l.length := by
  intro a
  induction a with
  | zero => simp [clU_zero]
  | succ a ih => rw [clU_succ, List.length_append, Nat.add_mul]; have := clA_len l a l.length; omega

@[go_sem] theorem okE_eP (l : List (Int × Int)) : okE 2 (l.map eP) = true := okE_map fun _ => rfl

theorem closure_c (n : Nat) (be : List (Int × Int)) (c : Bool) (hn : n ≤ 60) (hl : be.length ≤ 1048576) (hv : Val n be) :
    ACalls Try.prog 14 [.p (.int .i64 (n : Int)), .p (.list c (be.map eP))] [] fun x H' => x = .sl 0 0 (clU (cloOf n be) n).length (clU (cloOf n be) n).length ∧ H' = [.elems 2 ((clU (cloOf n be) n).map eP)] := by
  have hc := clo_of hv
  have hlen := hc.len
  refine acalls_fresh (fn := Try.f14) (by simp) Try.func14 rfl isF14 ?_
  simp (disch := omega) only [Try.f14, go_sem, Nat.reduceAdd, Nat.reduceMul, Nat.reduceSub, Nat.reduceLeDiff, Nat.reduceLT, Nat.reduceEqDiff, Nat.reduceBEq, Nat.reduceBNe, Int.reduceNeg, Int.reduceToNat, Int.reduceLT, Int.reduceLE, Int.reduceEq, Int.reduceAdd, Int.reduceMul, Int.reduceSub, Nat.reduceSucc, Nat.reduceGT, Nat.reducePow, Int.reducePow, reduceCtorEq, ↓reduceIte]
  refine ((chains_c n be c hn hl hv).frozen (by simpa using hlen)).use ?_
  simp (disch := omega) only [go_sem, Nat.reduceAdd, Nat.reduceMul, Nat.reduceSub, Nat.reduceLeDiff, Nat.reduceLT, Nat.reduceEqDiff, Nat.reduceBEq, Nat.reduceBNe, Int.reduceNeg, Int.reduceToNat, Int.reduceLT, Int.reduceLE, Int.reduceEq, Int.reduceAdd, Int.reduceMul, Int.reduceSub, Nat.reduceSucc, Nat.reduceGT, Nat.reducePow, Int.reducePow, reduceCtorEq, ↓reduceIte]
  generalize hgo : cloOf n be = o at hc hlen ⊢
  refine awp_for [0, 1, 5, 12, 13] (fun a : Nat => [(6, .sl 0 0 (clU o a).length (clU o a).length), (14, .p (.int .i64 a))]) (fun a => [.elems 2 ((clU o a).map eP)]) (fun a => a ≤ n) (fun a => n - a) 0 (by simp) (Weak.ofNil 6 2 (by simp (disch := omega) only [go_sem, Nat.reduceAdd, Nat.reduceMul, Nat.reduceSub, Nat.reduceLeDiff, Nat.reduceLT, Nat.reduceEqDiff, Nat.reduceBEq, Nat.reduceBNe, Int.reduceNeg, Int.reduceToNat, Int.reduceLT, Int.reduceLE, Int.reduceEq, Int.reduceAdd, Int.reduceMul, Int.reduceSub, Nat.reduceSucc, Nat.reduceGT, Nat.reducePow, Int.reducePow, reduceCtorEq, ↓reduceIte]) (by simp) (Weak.mk ?_)) ?_
  · simp (disch := omega) only [clU_zero, go_sem, Nat.reduceAdd, Nat.reduceMul, Nat.reduceSub, Nat.reduceLeDiff, Nat.reduceLT, Nat.reduceEqDiff, Nat.reduceBEq, Nat.reduceBNe, Int.reduceNeg, Int.reduceToNat, Int.reduceLT, Int.reduceLE, Int.reduceEq, Int.reduceAdd, Int.reduceMul, Int.reduceSub, Nat.reduceSucc, Nat.reduceGT, Nat.reducePow, Int.reducePow, reduceCtorEq, ↓reduceIte]
  · intro a ha
    have hul := clU_len o a
    have hul2 : a * o.length ≤ 60 * 60 := Nat.mul_le_mul (by omega) (by omega)
    simp (disch := omega) only [hlen, go_sem, Nat.reduceAdd, Nat.reduceMul, Nat.reduceSub, Nat.reduceLeDiff, Nat.reduceLT, Nat.reduceEqDiff, Nat.reduceBEq, Nat.reduceBNe, Int.reduceNeg, Int.reduceToNat, Int.reduceLT, Int.reduceLE, Int.reduceEq, Int.reduceAdd, Int.reduceMul, Int.reduceSub, Nat.reduceSucc, Nat.reduceGT, Nat.reducePow, Int.reducePow, reduceCtorEq, ↓reduceIte]
    refine acond_b (fun h => ?_) (fun h => ?_) <;> (try simp only [decide_eq_true_eq, decide_eq_false_iff_not] at h) <;> simp (disch := omega) only [h, hlen, go_sem, Nat.reduceAdd, Nat.reduceMul, Nat.reduceSub, Nat.reduceLeDiff, Nat.reduceLT, Nat.reduceEqDiff, Nat.reduceBEq, Nat.reduceBNe, Int.reduceNeg, Int.reduceToNat, Int.reduceLT, Int.reduceLE, Int.reduceEq, Int.reduceAdd, Int.reduceMul, Int.reduceSub, Nat.reduceSucc, Nat.reduceGT, Nat.reducePow, Int.reducePow, reduceCtorEq, ↓reduceIte]
    · refine awp_for [0, 1, 5, 7, 12, 13, 14, 17, 18] (fun b : Nat => [(6, .sl 0 0 (clU o a ++ clA o a b).length (clU o a ++ clA o a b).length), (19, .p (.int .i64 b))]) (fun b => [.elems 2 ((clU o a ++ clA o a b).map eP)]) (fun b => b ≤ n) (fun b => n - b) 0 (by simp) (Weak.mk ?_) ?_
      · simp (disch := omega) only [clA_zero, go_sem, Nat.reduceAdd, Nat.reduceMul, Nat.reduceSub, Nat.reduceLeDiff, Nat.reduceLT, Nat.reduceEqDiff, Nat.reduceBEq, Nat.reduceBNe, Int.reduceNeg, Int.reduceToNat, Int.reduceLT, Int.reduceLE, Int.reduceEq, Int.reduceAdd, Int.reduceMul, Int.reduceSub, Nat.reduceSucc, Nat.reduceGT, Nat.reducePow, Int.reducePow, reduceCtorEq, ↓reduceIte]
      · intro b hb
        have hal := clA_len o a b
        simp (disch := omega) only [go_sem, Nat.reduceAdd, Nat.reduceMul, Nat.reduceSub, Nat.reduceLeDiff, Nat.reduceLT, Nat.reduceEqDiff, Nat.reduceBEq, Nat.reduceBNe, Int.reduceNeg, Int.reduceToNat, Int.reduceLT, Int.reduceLE, Int.reduceEq, Int.reduceAdd, Int.reduceMul, Int.reduceSub, Nat.reduceSucc, Nat.reduceGT, Nat.reducePow, Int.reducePow, reduceCtorEq, ↓reduceIte]
        refine acond_b (fun h2 => ?_) (fun h2 => ?_) <;> (try simp only [decide_eq_true_eq, decide_eq_false_iff_not] at h2) <;> simp (disch := omega) only [h2, hlen, go_sem, Nat.reduceAdd, Nat.reduceMul, Nat.reduceSub, Nat.reduceLeDiff, Nat.reduceLT, Nat.reduceEqDiff, Nat.reduceBEq, Nat.reduceBNe, Int.reduceNeg, Int.reduceToNat, Int.reduceLT, Int.reduceLE, Int.reduceEq, Int.reduceAdd, Int.reduceMul, Int.reduceSub, Nat.reduceSucc, Nat.reduceGT, Nat.reducePow, Int.reducePow, reduceCtorEq, ↓reduceIte]
        · refine (has_c ((nth o b : Nat) : Int) a).use ?_
          simp (disch := omega) only [go_sem, Nat.reduceAdd, Nat.reduceMul, Nat.reduceSub, Nat.reduceLeDiff, Nat.reduceLT, Nat.reduceEqDiff, Nat.reduceBEq, Nat.reduceBNe, Int.reduceNeg, Int.reduceToNat, Int.reduceLT, Int.reduceLE, Int.reduceEq, Int.reduceAdd, Int.reduceMul, Int.reduceSub, Nat.reduceSucc, Nat.reduceGT, Nat.reducePow, Int.reducePow, reduceCtorEq, ↓reduceIte]
          refine acond_b (fun h3 => ?_) (fun h3 => ?_) <;> (try simp only [decide_eq_true_eq, decide_eq_false_iff_not] at h3) <;> simp (disch := omega) only [h3, go_sem, Nat.reduceAdd, Nat.reduceMul, Nat.reduceSub, Nat.reduceLeDiff, Nat.reduceLT, Nat.reduceEqDiff, Nat.reduceBEq, Nat.reduceBNe, Int.reduceNeg, Int.reduceToNat, Int.reduceLT, Int.reduceLE, Int.reduceEq, Int.reduceAdd, Int.reduceMul, Int.reduceSub, Nat.reduceSucc, Nat.reduceGT, Nat.reducePow, Int.reducePow, reduceCtorEq, ↓reduceIte]
          · have q1 : ((clU o a).length + (clA o a b).length + 1) * 16 ≤ 140737488355328 := by omega
            have q2 : (clU o a).length + (clA o a b).length ≤ 140737488355327 := by omega
            rw [sHas_nat _ _ (by omega)] at h3
            simp (disch := omega) only [q1, q2, go_sem, Nat.reduceAdd, Nat.reduceMul, Nat.reduceSub, Nat.reduceLeDiff, Nat.reduceLT, Nat.reduceEqDiff, Nat.reduceBEq, Nat.reduceBNe, Int.reduceNeg, Int.reduceToNat, Int.reduceLT, Int.reduceLE, Int.reduceEq, Int.reduceAdd, Int.reduceMul, Int.reduceSub, Nat.reduceSucc, Nat.reduceGT, Nat.reducePow, Int.reducePow, reduceCtorEq, ↓reduceIte]
            refine ⟨b + 1, by omega, by omega, Weak.mk ?_⟩
            simp (disch := omega) only [clA_yes h3, go_sem, Nat.reduceAdd, Nat.reduceMul, Nat.reduceSub, Nat.reduceLeDiff, Nat.reduceLT, Nat.reduceEqDiff, Nat.reduceBEq, Nat.reduceBNe, Int.reduceNeg, Int.reduceToNat, Int.reduceLT, Int.reduceLE, Int.reduceEq, Int.reduceAdd, Int.reduceMul, Int.reduceSub, Nat.reduceSucc, Nat.reduceGT, Nat.reducePow, Int.reducePow, reduceCtorEq, ↓reduceIte]
            simp [eP, Nat.add_assoc]
          · rw [sHas_nat _ _ (by omega)] at h3
            exact ⟨b + 1, by omega, by omega, Weak.mk (by simp (disch := omega) only [clA_no h3, go_sem, Nat.reduceAdd, Nat.reduceMul, Nat.reduceSub, Nat.reduceLeDiff, Nat.reduceLT, Nat.reduceEqDiff, Nat.reduceBEq, Nat.reduceBNe, Int.reduceNeg, Int.reduceToNat, Int.reduceLT, Int.reduceLE, Int.reduceEq, Int.reduceAdd, Int.reduceMul, Int.reduceSub, Nat.reduceSucc, Nat.reduceGT, Nat.reducePow, Int.reducePow, reduceCtorEq, ↓reduceIte])⟩
        · have : b = n := by omega
          subst this
          refine ⟨a + 1, by omega, by omega, Weak.mk ?_⟩
          simp (disch := omega) only [clU_succ, hlen, go_sem, Nat.reduceAdd, Nat.reduceMul, Nat.reduceSub, Nat.reduceLeDiff, Nat.reduceLT, Nat.reduceEqDiff, Nat.reduceBEq, Nat.reduceBNe, Int.reduceNeg, Int.reduceToNat, Int.reduceLT, Int.reduceLE, Int.reduceEq, Int.reduceAdd, Int.reduceMul, Int.reduceSub, Nat.reduceSucc, Nat.reduceGT, Nat.reducePow, Int.reducePow, reduceCtorEq, ↓reduceIte]
    · have : a = n := by omega
      subst this
      exact ⟨0, by simp (disch := omega) only [go_sem, Nat.reduceAdd, Nat.reduceMul, Nat.reduceSub, Nat.reduceLeDiff, Nat.reduceLT, Nat.reduceEqDiff, Nat.reduceBEq, Nat.reduceBNe, Int.reduceNeg, Int.reduceToNat, Int.reduceLT, Int.reduceLE, Int.reduceEq, Int.reduceAdd, Int.reduceMul, Int.reduceSub, Nat.reduceSucc, Nat.reduceGT, Nat.reducePow, Int.reducePow, reduceCtorEq, ↓reduceIte]⟩

/-- rules.Needs: what an order needs, with itself -/
def inst (pl ar ty : PV) (c1 c2 c3 : Bool) (os : List PV) (ap be : List (Int × Int)) : PV := .agg [pl, ar, ty, .list c1 os, .list c2 (ap.map eP), .list c3 (be.map eP)]
end Go.Proofs.Ytalmcdllbibknaa.K
