/- Contracts: the specification's Never, Right. -/
import Derived.Test.YtalmcdllbibknaaD4
set_option linter.unusedVariables false
set_option linter.unusedSimpArgs false
namespace Go.Proofs.Ytalmcdllbibknaa.K
open Go Go.AM Go.Proofs
set_option maxRecDepth 8000
set_option maxHeartbeats 8000000

theorem needsOf_lt {n : Nat} {be : List (Int × Int)} (hv : Val n be) {o : Nat} (ho : o < n) : needsOf n be (o : Int) < pw n := by
  rw [← needsOf_set hv ho]; exact setOf_lt _ _
theorem nev_set (os : List Ord) (ap be : List (Int × Int)) : ∀ k, nev os ap be k = setOf (bad os ap be) k
  | 0 => rfl
  | k + 1 => by
    have ih := nev_set os ap be k
    simp only [nev, setOf, ih]
    split
    · have hb : (setOf (bad os ap be) k).testBit k = false := Nat.testBit_lt_two_pow (setOf_lt _ k)
      apply Nat.eq_of_testBit_eq
      intro j
      rw [add_pw hb, Nat.testBit_or, testBit_pw]
    · rfl

theorem rnever_c (pl ar ty : PV) (c1 c2 c3 : Bool) (os : List Ord) (ap be : List (Int × Int)) (h1 : pl.one = true) (h2 : ar.one = true) (h3 : ty.one = true) (hn : os.length ≤ 60) (hla : ap.length ≤ 1048576) (hl : be.length ≤ 1048576) (hva : Val os.length ap) (hv : Val os.length be) :
    ACalls Try.prog 21 [.p (inst pl ar ty c1 c2 c3 (os.map eO) ap be)] [] fun x H' => x = .p (.int .i64 (nev os ap be os.length : Nat)) ∧ H' = [] := by
  have hp60 : pw os.length ≤ pw 62 := pw_le (by omega)
  have h62 := pw_62
  refine acalls_pure (fn := Try.f21) Try.func21 rfl isF21 ?_
  simp (disch := omega) only [Try.f21, h1, h2, h3, go_sem, Nat.reduceAdd, Nat.reduceMul, Nat.reduceSub, Nat.reduceLeDiff, Nat.reduceLT, Nat.reduceEqDiff, Nat.reduceBEq, Nat.reduceBNe, Int.reduceNeg, Int.reduceToNat, Int.reduceLT, Int.reduceLE, Int.reduceEq, Int.reduceAdd, Int.reduceMul, Int.reduceSub, Nat.reduceSucc, Nat.reduceGT, Nat.reducePow, Int.reducePow, reduceCtorEq, ↓reduceIte]
  refine awp_for [1] (fun k : Nat => [(3, .p (.int .i64 (nev os ap be k : Nat))), (4, .p (.int .i64 k))]) (fun _ => instH pl ar ty c1 c2 c3 (os.map eO) ap be) (fun k => k ≤ os.length) (fun k => os.length - k) 0 (by simp) (Weak.mk ?_) ?_
  · simp (disch := omega) only [instH, nev, go_sem, Nat.reduceAdd, Nat.reduceMul, Nat.reduceSub, Nat.reduceLeDiff, Nat.reduceLT, Nat.reduceEqDiff, Nat.reduceBEq, Nat.reduceBNe, Int.reduceNeg, Int.reduceToNat, Int.reduceLT, Int.reduceLE, Int.reduceEq, Int.reduceAdd, Int.reduceMul, Int.reduceSub, Nat.reduceSucc, Nat.reduceGT, Nat.reducePow, Int.reducePow, reduceCtorEq, ↓reduceIte]
  · intro k hk
    have b1 := nev_lt os ap be k
    have b2 : pw k ≤ pw 62 := pw_le (by omega)
    have b3 := pw_62
    have hsu : bad os ap be k = true → nev os ap be (k + 1) = nev os ap be k + pw k := fun e => by
      rw [nev_set, nev_set]; simp [setOf, e]
    simp (disch := omega) only [instH, go_sem, Nat.reduceAdd, Nat.reduceMul, Nat.reduceSub, Nat.reduceLeDiff, Nat.reduceLT, Nat.reduceEqDiff, Nat.reduceBEq, Nat.reduceBNe, Int.reduceNeg, Int.reduceToNat, Int.reduceLT, Int.reduceLE, Int.reduceEq, Int.reduceAdd, Int.reduceMul, Int.reduceSub, Nat.reduceSucc, Nat.reduceGT, Nat.reducePow, Int.reducePow, reduceCtorEq, ↓reduceIte]
    refine acond_b (fun h => ?_) (fun h => ?_) <;> (try simp only [decide_eq_true_eq, decide_eq_false_iff_not] at h) <;> simp (disch := omega) only [h, go_sem, Nat.reduceAdd, Nat.reduceMul, Nat.reduceSub, Nat.reduceLeDiff, Nat.reduceLT, Nat.reduceEqDiff, Nat.reduceBEq, Nat.reduceBNe, Int.reduceNeg, Int.reduceToNat, Int.reduceLT, Int.reduceLE, Int.reduceEq, Int.reduceAdd, Int.reduceMul, Int.reduceSub, Nat.reduceSucc, Nat.reduceGT, Nat.reducePow, Int.reducePow, reduceCtorEq, ↓reduceIte]
    · have hk2 : k < os.length := by omega
      refine awp_drawnF mixed (by kernel_rfl) ?_
      simp (disch := omega) only [go_sem, Nat.reduceAdd, Nat.reduceMul, Nat.reduceSub, Nat.reduceLeDiff, Nat.reduceLT, Nat.reduceEqDiff, Nat.reduceBEq, Nat.reduceBNe, Int.reduceNeg, Int.reduceToNat, Int.reduceLT, Int.reduceLE, Int.reduceEq, Int.reduceAdd, Int.reduceMul, Int.reduceSub, Nat.reduceSucc, Nat.reduceGT, Nat.reducePow, Int.reducePow, reduceCtorEq, ↓reduceIte]
      have hnl := needsOf_lt hv hk2
      have hN := rneeds_c pl ar ty c1 c2 c3 (os.map eO) ap be (k : Int) h1 h2 h3 (by simpa using hn) hl (by simpa using hv)
      rw [List.length_map] at hN
      have hA := rallowed_c pl ar ty c1 c2 c3 os ap be (needsOf os.length be k : Nat) h1 h2 h3 (by omega) hn hla hl hva hv
      refine aguard_t (fun h4 => ?_) (fun h4 => ?_) <;> (try simp only [decide_eq_true_eq, decide_eq_false_iff_not] at h4) <;> simp (disch := omega) only [h4, go_sem, Nat.reduceAdd, Nat.reduceMul, Nat.reduceSub, Nat.reduceLeDiff, Nat.reduceLT, Nat.reduceEqDiff, Nat.reduceBEq, Nat.reduceBNe, Int.reduceNeg, Int.reduceToNat, Int.reduceLT, Int.reduceLE, Int.reduceEq, Int.reduceAdd, Int.reduceMul, Int.reduceSub, Nat.reduceSucc, Nat.reduceGT, Nat.reducePow, Int.reducePow, reduceCtorEq, ↓reduceIte]
      · refine exq_call hN ?_
        simp (disch := omega) only [h4, go_sem, Nat.reduceAdd, Nat.reduceMul, Nat.reduceSub, Nat.reduceLeDiff, Nat.reduceLT, Nat.reduceEqDiff, Nat.reduceBEq, Nat.reduceBNe, Int.reduceNeg, Int.reduceToNat, Int.reduceLT, Int.reduceLE, Int.reduceEq, Int.reduceAdd, Int.reduceMul, Int.reduceSub, Nat.reduceSucc, Nat.reduceGT, Nat.reducePow, Int.reducePow, reduceCtorEq, ↓reduceIte]
        refine exq_call hA ?_
        simp (disch := omega) only [h4, go_sem, Nat.reduceAdd, Nat.reduceMul, Nat.reduceSub, Nat.reduceLeDiff, Nat.reduceLT, Nat.reduceEqDiff, Nat.reduceBEq, Nat.reduceBNe, Int.reduceNeg, Int.reduceToNat, Int.reduceLT, Int.reduceLE, Int.reduceEq, Int.reduceAdd, Int.reduceMul, Int.reduceSub, Nat.reduceSucc, Nat.reduceGT, Nat.reducePow, Int.reducePow, reduceCtorEq, ↓reduceIte]
        refine acond_b (fun h5 => ?_) (fun h5 => ?_) <;> (try simp only [decide_eq_true_eq, decide_eq_false_iff_not] at h5) <;> simp (disch := omega) only [h5, go_sem, Nat.reduceAdd, Nat.reduceMul, Nat.reduceSub, Nat.reduceLeDiff, Nat.reduceLT, Nat.reduceEqDiff, Nat.reduceBEq, Nat.reduceBNe, Int.reduceNeg, Int.reduceToNat, Int.reduceLT, Int.reduceLE, Int.reduceEq, Int.reduceAdd, Int.reduceMul, Int.reduceSub, Nat.reduceSucc, Nat.reduceGT, Nat.reducePow, Int.reducePow, reduceCtorEq, ↓reduceIte]
        · have e : bad os ap be k = true := by simp [bad, h4, h5]
          refine (bit_c k (by omega)).use ?_
          simp (disch := omega) only [go_sem, Nat.reduceAdd, Nat.reduceMul, Nat.reduceSub, Nat.reduceLeDiff, Nat.reduceLT, Nat.reduceEqDiff, Nat.reduceBEq, Nat.reduceBNe, Int.reduceNeg, Int.reduceToNat, Int.reduceLT, Int.reduceLE, Int.reduceEq, Int.reduceAdd, Int.reduceMul, Int.reduceSub, Nat.reduceSucc, Nat.reduceGT, Nat.reducePow, Int.reducePow, reduceCtorEq, ↓reduceIte]
          refine ⟨k + 1, by omega, by omega, Weak.mk ?_⟩
          simp (disch := omega) only [instH, hsu e, Int.natCast_add, go_sem, Nat.reduceAdd, Nat.reduceMul, Nat.reduceSub, Nat.reduceLeDiff, Nat.reduceLT, Nat.reduceEqDiff, Nat.reduceBEq, Nat.reduceBNe, Int.reduceNeg, Int.reduceToNat, Int.reduceLT, Int.reduceLE, Int.reduceEq, Int.reduceAdd, Int.reduceMul, Int.reduceSub, Nat.reduceSucc, Nat.reduceGT, Nat.reducePow, Int.reducePow, reduceCtorEq, ↓reduceIte]
        · have e : bad os ap be k = false := by simp only [Classical.not_not] at h5; simp [bad, h4, h5]
          refine ⟨k + 1, by omega, by omega, Weak.mk ?_⟩
          simp (disch := omega) only [instH, nev, e, go_sem, Nat.reduceAdd, Nat.reduceMul, Nat.reduceSub, Nat.reduceLeDiff, Nat.reduceLT, Nat.reduceEqDiff, Nat.reduceBEq, Nat.reduceBNe, Int.reduceNeg, Int.reduceToNat, Int.reduceLT, Int.reduceLE, Int.reduceEq, Int.reduceAdd, Int.reduceMul, Int.reduceSub, Nat.reduceSucc, Nat.reduceGT, Nat.reducePow, Int.reducePow, reduceCtorEq, ↓reduceIte]
      · have e : bad os ap be k = false := by simp [bad, h4]
        refine ⟨k + 1, by omega, by omega, Weak.mk ?_⟩
        simp (disch := omega) only [instH, nev, e, go_sem, Nat.reduceAdd, Nat.reduceMul, Nat.reduceSub, Nat.reduceLeDiff, Nat.reduceLT, Nat.reduceEqDiff, Nat.reduceBEq, Nat.reduceBNe, Int.reduceNeg, Int.reduceToNat, Int.reduceLT, Int.reduceLE, Int.reduceEq, Int.reduceAdd, Int.reduceMul, Int.reduceSub, Nat.reduceSucc, Nat.reduceGT, Nat.reducePow, Int.reducePow, reduceCtorEq, ↓reduceIte]
    · have : k = os.length := by omega
      subst this
      rfl

/-- right pairs -/
def rightI (os : List Ord) (ap be : List (Int × Int)) : Bool := decide (os.length ≤ 10) && decide (chk os.length ap be = [])
theorem right_c' (pl ar ty : PV) (c1 c2 c3 : Bool) (os : List Ord) (ap be : List (Int × Int)) (h1 : pl.one = true) (h2 : ar.one = true) (h3 : ty.one = true) (hla : ap.length ≤ 1048576) (hl : be.length ≤ 1048576) :
    ACalls Try.prog 12 [.p (inst pl ar ty c1 c2 c3 (os.map eO) ap be)] [] fun x H' => x = .p (.bool (rightI os ap be)) ∧ H' = [] := by
  refine acalls_pure (fn := Try.f12) Try.func12 rfl isF12 ?_
  simp (disch := omega) only [Try.f12, h1, h2, h3, go_sem, Nat.reduceAdd, Nat.reduceMul, Nat.reduceSub, Nat.reduceLeDiff, Nat.reduceLT, Nat.reduceEqDiff, Nat.reduceBEq, Nat.reduceBNe, Int.reduceNeg, Int.reduceToNat, Int.reduceLT, Int.reduceLE, Int.reduceEq, Int.reduceAdd, Int.reduceMul, Int.reduceSub, Nat.reduceSucc, Nat.reduceGT, Nat.reducePow, Int.reducePow, reduceCtorEq, ↓reduceIte]
  refine aguard_t (fun h => ?_) (fun h => ?_) <;> (try simp only [decide_eq_true_eq, decide_eq_false_iff_not] at h) <;> simp (disch := omega) only [h, go_sem, Nat.reduceAdd, Nat.reduceMul, Nat.reduceSub, Nat.reduceLeDiff, Nat.reduceLT, Nat.reduceEqDiff, Nat.reduceBEq, Nat.reduceBNe, Int.reduceNeg, Int.reduceToNat, Int.reduceLT, Int.reduceLE, Int.reduceEq, Int.reduceAdd, Int.reduceMul, Int.reduceSub, Nat.reduceSucc, Nat.reduceGT, Nat.reducePow, Int.reducePow, reduceCtorEq, ↓reduceIte]
  · refine ((rcheck_c os.length ap be c2 c3 hla hl).frozen (by simp)).use ?_
    have hq : (chk os.length ap be).length ≤ 3000000 := by
      have q1 := fltU_len os.length [97, 112, 97, 114, 116] (fun p q => decide (p = q ∨ (p.1 = q.2 ∧ p.2 = q.1))) ap ap.length
      have q2 := fltU_len os.length [98, 101, 102, 111, 114, 101] (fun p q => decide (p = q)) be be.length
      rw [chk, List.length_append]
      omega
    simp (disch := omega) only [go_sem, Nat.reduceAdd, Nat.reduceMul, Nat.reduceSub, Nat.reduceLeDiff, Nat.reduceLT, Nat.reduceEqDiff, Nat.reduceBEq, Nat.reduceBNe, Int.reduceNeg, Int.reduceToNat, Int.reduceLT, Int.reduceLE, Int.reduceEq, Int.reduceAdd, Int.reduceMul, Int.reduceSub, Nat.reduceSucc, Nat.reduceGT, Nat.reducePow, Int.reducePow, reduceCtorEq, ↓reduceIte]
    have : os.length ≤ 10 := by omega
    simp [rightI, this]
  · have : ¬ os.length ≤ 10 := by omega
    simp [rightI, this]

theorem flt_ok {n : Int} {word : List UInt8} {sm : Int × Int → Int × Int → Bool} {l : List (Int × Int)} (h : fltU n word sm l l.length = []) : l.length ≤ 16 ∧ (∀ p ∈ l, okP n p = true) ∧ ∀ i, i < l.length → (l.take i).any (sm (nth l i)) = false := by
  simp only [fltU, List.append_eq_nil_iff, List.flatMap_eq_nil_iff, List.mem_range] at h
  obtain ⟨h1, h2⟩ := h
  have key : ∀ i, i < l.length → okP n (nth l i) = true ∧ (l.take i).any (sm (nth l i)) = false := fun i hi => by
    have := h2 i hi
    unfold flt at this
    split at this
    · cases this
    · rename_i ho
      split at this
      · cases this
      · rename_i hs
        exact ⟨by simpa using ho, by simpa using hs⟩
  refine ⟨?_, fun p hp => ?_, fun i hi => (key i hi).2⟩
  · unfold hdr at h1
    split at h1
    · cases h1
    · omega
  · obtain ⟨i, hi, rfl⟩ := List.mem_iff_getElem.1 hp
    rw [← nth_get hi]; exact (key i hi).1
theorem okP_val {n : Nat} {l : List (Int × Int)} (h : ∀ p ∈ l, okP n p = true) : Val n l := fun p hp => by
  have := h p hp
  simp [okP] at this
  omega
theorem right_inv {os : List Ord} {ap be : List (Int × Int)} (h : rightI os ap be = true) : os.length ≤ 10 ∧ ap.length ≤ 16 ∧ be.length ≤ 16 ∧ Val os.length ap ∧ Val os.length be := by
  simp only [rightI, Bool.and_eq_true, decide_eq_true_eq, chk, List.append_eq_nil_iff] at h
  obtain ⟨h1, h2, h3⟩ := h
  obtain ⟨a1, a2, _⟩ := flt_ok h2
  obtain ⟨b1, b2, _⟩ := flt_ok h3
  exact ⟨h1, a1, b1, okP_val a2, okP_val b2⟩
end Go.Proofs.Ytalmcdllbibknaa.K
