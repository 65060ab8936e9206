/- Contracts: helpers of the laws on sequences. -/
import Derived.Test.YtlbhefiehkmhjaaQ13
import Derived.Test.YtlbhefiehkmhjaaA7
set_option linter.unusedVariables false
set_option linter.unusedSimpArgs false
namespace Go.Proofs.Ytlbhefiehkmhjaa.K
open Go Go.AM Go.Proofs
set_option maxRecDepth 8000
set_option maxHeartbeats 8000000

def oaO : Ord := ⟨[111, 97], false, [1], ⟨0, 0, 50, 0⟩, ⟨0, 0, 50, 0⟩, 0, 0, 1, -1, -1, false⟩
def obO : Ord := ⟨[111, 98], false, [1], ⟨0, 0, 50, 0⟩, ⟨0, 0, 50, 0⟩, 0, 0, 1, -1, -1, false⟩
def vanT : Typ := ⟨[118, 97, 110], 1, 0, 0, false, [5], 0, 0, 0, 100, 50, 0, 0, 0, 0⟩
def pairI (b : Bool) : Inst := ⟨⟨false, [[104, 117, 98]], true, []⟩, false, [vanT], false, [oaO, obO], true, [], !b, if b then [(0, 1)] else []⟩

theorem pair_c (b : Bool) : ACalls Try.prog 42 [.p (.bool b)] [] fun x H' => x = .p (eInst (pairI b)) ∧ H' = [] := by
  refine ACalls.read (acalls_of (fn := Try.f42) Try.func42 rfl isF42 (awp_sound [5] _ _ _ _ ?_))
  simp (disch := omega) only [Try.f42, go_sem, Nat.reduceAdd, Nat.reduceMul, Nat.reduceSub, Nat.reduceLeDiff, Nat.reduceLT, Nat.reduceEqDiff, Nat.reduceBEq, Nat.reduceBNe, Int.reduceNeg, Int.reduceToNat, Int.reduceLT, Int.reduceLE, Int.reduceEq, Int.reduceAdd, Int.reduceMul, Int.reduceSub, Nat.reduceSucc, Nat.reduceGT, Nat.reducePow, Int.reducePow, reduceCtorEq, ↓reduceIte]
  refine awp_weak (Weak.fz (o := 1) (by rfl)) ?_
  refine awp_weak (Weak.fz (o := 4) (by rfl)) ?_
  refine awp_sound [] _ _ _ _ ?_
  simp (disch := omega) only [List.map_cons, List.map_nil, List.set_cons_succ, List.set_cons_zero, go_sem, Nat.reduceAdd, Nat.reduceMul, Nat.reduceSub, Nat.reduceLeDiff, Nat.reduceLT, Nat.reduceEqDiff, Nat.reduceBEq, Nat.reduceBNe, Int.reduceNeg, Int.reduceToNat, Int.reduceLT, Int.reduceLE, Int.reduceEq, Int.reduceAdd, Int.reduceMul, Int.reduceSub, Nat.reduceSucc, Nat.reduceGT, Nat.reducePow, Int.reducePow, reduceCtorEq, ↓reduceIte]
  refine acond_b (fun h => ?_) (fun h => ?_) <;> (try simp only [decide_eq_true_eq, decide_eq_false_iff_not] at h) <;> simp (disch := omega) only [Sh.out h, go_sem, Nat.reduceAdd, Nat.reduceMul, Nat.reduceSub, Nat.reduceLeDiff, Nat.reduceLT, Nat.reduceEqDiff, Nat.reduceBEq, Nat.reduceBNe, Int.reduceNeg, Int.reduceToNat, Int.reduceLT, Int.reduceLE, Int.reduceEq, Int.reduceAdd, Int.reduceMul, Int.reduceSub, Nat.reduceSucc, Nat.reduceGT, Nat.reducePow, Int.reducePow, reduceCtorEq, ↓reduceIte]
  · subst h
    simp [rd, rds, rd1, oat, eInst, pairI, eTyp, eOrd, vanT, oaO, obO, eI, eS, eP]
  · subst h
    simp [rd, rds, rd1, oat, eInst, pairI, eTyp, eOrd, vanT, oaO, obO, eI, eS, eP]

theorem useT2 {g : FuncId} {args : List V} {xs : List PV} {b : PV} {H : List AM.Obj} {K : V → List AM.Obj → Prop} (h : ACalls Try.prog g args [] fun x H' => ∃ cl : Bool, x = .tup [.p (.list cl xs), .p b] ∧ H' = []) (k : ∀ cl, K (.tup [.p (.list cl xs), .p b]) H) (ha : refBs 0 args = true := by rfl) : ACalls Try.prog g args H K :=
  (h.behind ha H).mono fun x H' hq => by
    obtain ⟨y, H1, ⟨cl, rfl, rfl⟩, rfl, rfl⟩ := hq
    simpa [shV, shVs] using k cl

theorem pair_chain {b : Bool} {a c : Nat} (h : Ch (pairI b).before a c) : a = 0 ∧ c = 1 := by
  have hE : ∀ {a c : Nat}, Ed (pairI b).before a c → a = 0 ∧ c = 1 := fun h => by
    obtain ⟨p, hp, h1, h2⟩ := h
    cases b <;> simp [pairI] at hp
    subst hp; simp at h1 h2; omega
  induction h with
  | one h => exact hE h
  | more _ h ih => have := hE h; omega
theorem pair_alw (b : Bool) : Alw (pairI b) 3 := by
  refine ⟨fun i hi _ => ?_, rfl, fun p hp _ => ?_, fun i _ _ h => ?_⟩
  · have : i = 0 ∨ i = 1 := by simp [pairI] at hi; omega
    rcases this with rfl | rfl <;> rfl
  · cases b <;> simp [pairI] at hp
    subst hp; decide
  · have := pair_chain h; omega
theorem pair_val (b : Bool) : Val (pairI b).orders.length (pairI b).before := fun p hp => by
  cases b <;> simp [pairI] at hp
  subst hp; simp [pairI]
theorem pair_forb (b : Bool) : forbB (pairI b) 3 = false := (forb_iff (by simp [pairI]) (by simp [pairI, pw]) (pair_val b)).2 (pair_alw b)
theorem pair_all (b : Bool) : allR (pairI b) 3 = ((walk (fun l => nextU (pairI b) 3 l 2) 4 [] []).1, 0) := by
  have ht : totU (pairI b) 3 (pairI b).orders.length = 4 := by cases b <;> rfl
  rw [allR, if_neg (by simp [pairI, pw]), if_neg (by simp [pair_forb]), ht]
  exact if_pos (by cases b <;> decide +kernel)

theorem awake16_c : ACalls Try.prog 15 [] [] fun x H' => x = .p (.bool true) ∧ H' = [] := by
  have hb : ∀ b, ∀ p ∈ (pairI b).before, 0 ≤ p.1 ∧ p.1 < (pairI b).orders.length := fun b p hp => ⟨(pair_val b p hp).1, (pair_val b p hp).2.1⟩
  have hap : ∀ b, (pairI b).apart.length ≤ 1048576 := fun b => by simp [pairI]
  have hbl : ∀ b, (pairI b).before.length ≤ 1048576 := fun b => by cases b <;> simp [pairI]
  have hol : ∀ b, (pairI b).orders.length ≤ 60 := fun b => by simp [pairI]
  have all : ∀ b, ACalls Try.prog 18 [.p (eInst (pairI b)), .p (.int .i64 3)] [] fun y H' => ∃ cl : Bool, y = .tup [.p (.list cl ((walk (fun l => nextU (pairI b) 3 l 2) 4 [] []).1.map eL)), .p (.int .i64 0)] ∧ H' = [] := fun b => by
    have := seqAll_c (pairI b) 3 (by omega) (hol b) (hap b) (hbl b) (pair_val b) (fun _ _ => by cases b <;> decide)
    rw [pair_all] at this
    exact this
  have a1 : (walk (fun l => nextU (pairI false) 3 l 2) 4 [] []).1.length = 6 := by decide +kernel
  have a2 : (walk (fun l => nextU (pairI true) 3 l 2) 4 [] []).1.length = 1 := by decide +kernel
  have hord := seqOrders_c ⟨0, 0, true, [], false, [⟨0, false⟩, ⟨0, true⟩]⟩ (by simp)
  rw [show ordR (Rte.visits ⟨0, 0, true, [], false, [⟨0, false⟩, ⟨0, true⟩]⟩) = (1, 0) from by decide +kernel] at hord
  have hchk := seqCheck_c (pairI false) ⟨0, 0, true, [], false, [⟨0, false⟩, ⟨0, true⟩]⟩ (by simp [pairI]) (by simp) (hap false) (hbl false)
  rw [show seqChk (pairI false) (Rte.visits ⟨0, 0, true, [], false, [⟨0, false⟩, ⟨0, true⟩]⟩) = 0 from by decide +kernel] at hchk
  have hnx := seqNext_c (pairI true) 3 [] true (by omega) (by simp) (hol true) (hbl true) (hb true)
  have hnl : (nextU (pairI true) 3 [] (pairI true).orders.length).length = 1 := by decide +kernel
  have hls := seqLess_c [] [⟨0, false⟩, ⟨0, true⟩] true false (by simp) (by simp)
  rw [show decide (lexC [] [⟨0, false⟩, ⟨0, true⟩] < 0) = true from by decide] at hls
  have hsm := seqSame_c [] [] true true (by simp) (by simp)
  rw [show decide (([] : List Vis) = []) = true from by decide] at hsm
  generalize nextU (pairI true) 3 [] (pairI true).orders.length = NX at hnx hnl
  have allF := all false
  have allT := all true
  clear all
  generalize (walk (fun l => nextU (pairI false) 3 l 2) 4 [] []).1 = W1 at allF a1
  generalize (walk (fun l => nextU (pairI true) 3 l 2) 4 [] []).1 = W2 at allT a2
  refine acalls_pureC [4] (fn := Try.f15) Try.func15 rfl isF15 ?_
  simp (disch := omega) only [Try.f15, go_sem, Nat.reduceAdd, Nat.reduceMul, Nat.reduceSub, Nat.reduceLeDiff, Nat.reduceLT, Nat.reduceEqDiff, Nat.reduceBEq, Nat.reduceBNe, Int.reduceNeg, Int.reduceToNat, Int.reduceLT, Int.reduceLE, Int.reduceEq, Int.reduceAdd, Int.reduceMul, Int.reduceSub, Nat.reduceSucc, Nat.reduceGT, Nat.reducePow, Int.reducePow, reduceCtorEq, ↓reduceIte]
  refine (pair_c false).use ?_
  simp (disch := omega) only [go_sem, Nat.reduceAdd, Nat.reduceMul, Nat.reduceSub, Nat.reduceLeDiff, Nat.reduceLT, Nat.reduceEqDiff, Nat.reduceBEq, Nat.reduceBNe, Int.reduceNeg, Int.reduceToNat, Int.reduceLT, Int.reduceLE, Int.reduceEq, Int.reduceAdd, Int.reduceMul, Int.reduceSub, Nat.reduceSucc, Nat.reduceGT, Nat.reducePow, Int.reducePow, reduceCtorEq, ↓reduceIte]
  refine useT2 allF fun cl1 => ?_
  simp (disch := omega) only [go_sem, Nat.reduceAdd, Nat.reduceMul, Nat.reduceSub, Nat.reduceLeDiff, Nat.reduceLT, Nat.reduceEqDiff, Nat.reduceBEq, Nat.reduceBNe, Int.reduceNeg, Int.reduceToNat, Int.reduceLT, Int.reduceLE, Int.reduceEq, Int.reduceAdd, Int.reduceMul, Int.reduceSub, Nat.reduceSucc, Nat.reduceGT, Nat.reducePow, Int.reducePow, reduceCtorEq, ↓reduceIte]
  refine (pair_c true).use ?_
  simp (disch := omega) only [go_sem, Nat.reduceAdd, Nat.reduceMul, Nat.reduceSub, Nat.reduceLeDiff, Nat.reduceLT, Nat.reduceEqDiff, Nat.reduceBEq, Nat.reduceBNe, Int.reduceNeg, Int.reduceToNat, Int.reduceLT, Int.reduceLE, Int.reduceEq, Int.reduceAdd, Int.reduceMul, Int.reduceSub, Nat.reduceSucc, Nat.reduceGT, Nat.reducePow, Int.reducePow, reduceCtorEq, ↓reduceIte]
  refine useT2 allT fun cl2 => ?_
  simp (disch := omega) only [go_sem, Nat.reduceAdd, Nat.reduceMul, Nat.reduceSub, Nat.reduceLeDiff, Nat.reduceLT, Nat.reduceEqDiff, Nat.reduceBEq, Nat.reduceBNe, Int.reduceNeg, Int.reduceToNat, Int.reduceLT, Int.reduceLE, Int.reduceEq, Int.reduceAdd, Int.reduceMul, Int.reduceSub, Nat.reduceSucc, Nat.reduceGT, Nat.reducePow, Int.reducePow, reduceCtorEq, ↓reduceIte]
  refine awp_weak (Weak.fz (o := 0) (by rfl)) ?_
  refine awp_sound [] _ _ _ _ ?_
  simp (disch := omega) only [List.map_cons, List.map_nil, List.set_cons_succ, List.set_cons_zero, go_sem, Nat.reduceAdd, Nat.reduceMul, Nat.reduceSub, Nat.reduceLeDiff, Nat.reduceLT, Nat.reduceEqDiff, Nat.reduceBEq, Nat.reduceBNe, Int.reduceNeg, Int.reduceToNat, Int.reduceLT, Int.reduceLE, Int.reduceEq, Int.reduceAdd, Int.reduceMul, Int.reduceSub, Nat.reduceSucc, Nat.reduceGT, Nat.reducePow, Int.reducePow, reduceCtorEq, ↓reduceIte]
  refine useT hord ?_
  simp (disch := omega) only [go_sem, Nat.reduceAdd, Nat.reduceMul, Nat.reduceSub, Nat.reduceLeDiff, Nat.reduceLT, Nat.reduceEqDiff, Nat.reduceBEq, Nat.reduceBNe, Int.reduceNeg, Int.reduceToNat, Int.reduceLT, Int.reduceLE, Int.reduceEq, Int.reduceAdd, Int.reduceMul, Int.reduceSub, Nat.reduceSucc, Nat.reduceGT, Nat.reducePow, Int.reducePow, reduceCtorEq, ↓reduceIte]
  refine awp_drawnA mixed (by kernel_rfl) (by kernel_rfl) ?_
  simp (disch := omega) only [go_sem, Nat.reduceAdd, Nat.reduceMul, Nat.reduceSub, Nat.reduceLeDiff, Nat.reduceLT, Nat.reduceEqDiff, Nat.reduceBEq, Nat.reduceBNe, Int.reduceNeg, Int.reduceToNat, Int.reduceLT, Int.reduceLE, Int.reduceEq, Int.reduceAdd, Int.reduceMul, Int.reduceSub, Nat.reduceSucc, Nat.reduceGT, Nat.reducePow, Int.reducePow, reduceCtorEq, ↓reduceIte]
  refine aguard_t (fun h1 => ?_) (fun h1 => ?_) <;> (try simp only [decide_eq_true_eq, decide_eq_false_iff_not] at h1) <;> simp (disch := omega) only [Sh.out h1, go_sem, Nat.reduceAdd, Nat.reduceMul, Nat.reduceSub, Nat.reduceLeDiff, Nat.reduceLT, Nat.reduceEqDiff, Nat.reduceBEq, Nat.reduceBNe, Int.reduceNeg, Int.reduceToNat, Int.reduceLT, Int.reduceLE, Int.reduceEq, Int.reduceAdd, Int.reduceMul, Int.reduceSub, Nat.reduceSucc, Nat.reduceGT, Nat.reducePow, Int.reducePow, reduceCtorEq, ↓reduceIte]
  · refine aguard_t (fun h2 => ?_) (fun h2 => ?_) <;> (try simp only [decide_eq_true_eq, decide_eq_false_iff_not] at h2) <;> simp (disch := omega) only [Sh.out h2, go_sem, Nat.reduceAdd, Nat.reduceMul, Nat.reduceSub, Nat.reduceLeDiff, Nat.reduceLT, Nat.reduceEqDiff, Nat.reduceBEq, Nat.reduceBNe, Int.reduceNeg, Int.reduceToNat, Int.reduceLT, Int.reduceLE, Int.reduceEq, Int.reduceAdd, Int.reduceMul, Int.reduceSub, Nat.reduceSucc, Nat.reduceGT, Nat.reducePow, Int.reducePow, reduceCtorEq, ↓reduceIte]
    · refine exq_call (pair_c false) ?_
      simp (disch := omega) only [go_sem, Nat.reduceAdd, Nat.reduceMul, Nat.reduceSub, Nat.reduceLeDiff, Nat.reduceLT, Nat.reduceEqDiff, Nat.reduceBEq, Nat.reduceBNe, Int.reduceNeg, Int.reduceToNat, Int.reduceLT, Int.reduceLE, Int.reduceEq, Int.reduceAdd, Int.reduceMul, Int.reduceSub, Nat.reduceSucc, Nat.reduceGT, Nat.reducePow, Int.reducePow, reduceCtorEq, ↓reduceIte]
      refine exq_call (hchk) ?_
      simp (disch := omega) only [go_sem, Nat.reduceAdd, Nat.reduceMul, Nat.reduceSub, Nat.reduceLeDiff, Nat.reduceLT, Nat.reduceEqDiff, Nat.reduceBEq, Nat.reduceBNe, Int.reduceNeg, Int.reduceToNat, Int.reduceLT, Int.reduceLE, Int.reduceEq, Int.reduceAdd, Int.reduceMul, Int.reduceSub, Nat.reduceSucc, Nat.reduceGT, Nat.reducePow, Int.reducePow, reduceCtorEq, ↓reduceIte]
      refine exq_call (pair_c true) ?_
      simp (disch := omega) only [go_sem, Nat.reduceAdd, Nat.reduceMul, Nat.reduceSub, Nat.reduceLeDiff, Nat.reduceLT, Nat.reduceEqDiff, Nat.reduceBEq, Nat.reduceBNe, Int.reduceNeg, Int.reduceToNat, Int.reduceLT, Int.reduceLE, Int.reduceEq, Int.reduceAdd, Int.reduceMul, Int.reduceSub, Nat.reduceSucc, Nat.reduceGT, Nat.reducePow, Int.reducePow, reduceCtorEq, ↓reduceIte]
      refine exq_call (hnx) ?_
      simp (disch := omega) only [go_sem, Nat.reduceAdd, Nat.reduceMul, Nat.reduceSub, Nat.reduceLeDiff, Nat.reduceLT, Nat.reduceEqDiff, Nat.reduceBEq, Nat.reduceBNe, Int.reduceNeg, Int.reduceToNat, Int.reduceLT, Int.reduceLE, Int.reduceEq, Int.reduceAdd, Int.reduceMul, Int.reduceSub, Nat.reduceSucc, Nat.reduceGT, Nat.reducePow, Int.reducePow, reduceCtorEq, ↓reduceIte]
      refine aguard_t (fun h3 => ?_) (fun h3 => ?_) <;> (try simp only [decide_eq_true_eq, decide_eq_false_iff_not] at h3) <;> simp (disch := omega) only [Sh.out h3, go_sem, Nat.reduceAdd, Nat.reduceMul, Nat.reduceSub, Nat.reduceLeDiff, Nat.reduceLT, Nat.reduceEqDiff, Nat.reduceBEq, Nat.reduceBNe, Int.reduceNeg, Int.reduceToNat, Int.reduceLT, Int.reduceLE, Int.reduceEq, Int.reduceAdd, Int.reduceMul, Int.reduceSub, Nat.reduceSucc, Nat.reduceGT, Nat.reducePow, Int.reducePow, reduceCtorEq, ↓reduceIte]
      · refine exq_call (hls) ?_
        simp (disch := omega) only [go_sem, Nat.reduceAdd, Nat.reduceMul, Nat.reduceSub, Nat.reduceLeDiff, Nat.reduceLT, Nat.reduceEqDiff, Nat.reduceBEq, Nat.reduceBNe, Int.reduceNeg, Int.reduceToNat, Int.reduceLT, Int.reduceLE, Int.reduceEq, Int.reduceAdd, Int.reduceMul, Int.reduceSub, Nat.reduceSucc, Nat.reduceGT, Nat.reducePow, Int.reducePow, reduceCtorEq, ↓reduceIte]
        refine exq_call (hsm) ?_
        simp (disch := omega) only [go_sem, Nat.reduceAdd, Nat.reduceMul, Nat.reduceSub, Nat.reduceLeDiff, Nat.reduceLT, Nat.reduceEqDiff, Nat.reduceBEq, Nat.reduceBNe, Int.reduceNeg, Int.reduceToNat, Int.reduceLT, Int.reduceLE, Int.reduceEq, Int.reduceAdd, Int.reduceMul, Int.reduceSub, Nat.reduceSucc, Nat.reduceGT, Nat.reducePow, Int.reducePow, reduceCtorEq, ↓reduceIte]
      · omega
    · omega
  · omega

theorem few16_c (x : Inst) (hw : x.wf 1048576) : ACalls Try.prog 14 [.p (eInst x)] [] fun y H' => ∃ b : Bool, (b = true ↔ x.orders.length ≤ 4 ∧ InstOk x) ∧ y = .p (.bool b) ∧ H' = [] := by
  have hol := hw.2.2.2.1
  refine ACalls.pureE (acalls_of (fn := Try.f14) Try.func14 rfl isF14 (awp_sound [] _ _ _ _ ?_))
  simp (disch := omega) only [Try.f14, go_sem, Nat.reduceAdd, Nat.reduceMul, Nat.reduceSub, Nat.reduceLeDiff, Nat.reduceLT, Nat.reduceEqDiff, Nat.reduceBEq, Nat.reduceBNe, Int.reduceNeg, Int.reduceToNat, Int.reduceLT, Int.reduceLE, Int.reduceEq, Int.reduceAdd, Int.reduceMul, Int.reduceSub, Nat.reduceSucc, Nat.reduceGT, Nat.reducePow, Int.reducePow, reduceCtorEq, ↓reduceIte]
  refine aguard_t (fun h => ?_) (fun h => ?_) <;> (try simp only [decide_eq_true_eq, decide_eq_false_iff_not] at h) <;> simp (disch := omega) only [Sh.out h, go_sem, Nat.reduceAdd, Nat.reduceMul, Nat.reduceSub, Nat.reduceLeDiff, Nat.reduceLT, Nat.reduceEqDiff, Nat.reduceBEq, Nat.reduceBNe, Int.reduceNeg, Int.reduceToNat, Int.reduceLT, Int.reduceLE, Int.reduceEq, Int.reduceAdd, Int.reduceMul, Int.reduceSub, Nat.reduceSucc, Nat.reduceGT, Nat.reducePow, Int.reducePow, reduceCtorEq, ↓reduceIte]
  · refine ((ck13_c x hw).frozenE).useV fun m hm => ?_
    simp (disch := omega) only [go_sem, Nat.reduceAdd, Nat.reduceMul, Nat.reduceSub, Nat.reduceLeDiff, Nat.reduceLT, Nat.reduceEqDiff, Nat.reduceBEq, Nat.reduceBNe, Int.reduceNeg, Int.reduceToNat, Int.reduceLT, Int.reduceLE, Int.reduceEq, Int.reduceAdd, Int.reduceMul, Int.reduceSub, Nat.reduceSucc, Nat.reduceGT, Nat.reducePow, Int.reducePow, reduceCtorEq, ↓reduceIte]
    refine ⟨decide (m.length = 0), ?_, by simp⟩
    have := hm.emp
    rw [decide_eq_true_eq, List.length_eq_zero_iff, this]
    constructor
    · intro h2; exact ⟨by omega, h2⟩
    · intro h2; exact h2.2
  · exact ⟨false, by simp; omega, rfl⟩

theorem lists16_c (a b : List (List Vis)) (c d : Bool) (ha : a.length ≤ 1048576) (hb : b.length ≤ 1048576) (hal : ∀ l ∈ a, l.length ≤ 1048576) (hbl : ∀ l ∈ b, l.length ≤ 1048576) : ACalls Try.prog 20 [.p (.list c (a.map eL)), .p (.list d (b.map eL))] [] fun y H' => y = .p (.bool (decide (a = b))) ∧ H' = [] := by
  refine acalls_pure (fn := Try.f20) Try.func20 rfl isF20 ?_
  simp (disch := omega) only [Try.f20, go_sem, Nat.reduceAdd, Nat.reduceMul, Nat.reduceSub, Nat.reduceLeDiff, Nat.reduceLT, Nat.reduceEqDiff, Nat.reduceBEq, Nat.reduceBNe, Int.reduceNeg, Int.reduceToNat, Int.reduceLT, Int.reduceLE, Int.reduceEq, Int.reduceAdd, Int.reduceMul, Int.reduceSub, Nat.reduceSucc, Nat.reduceGT, Nat.reducePow, Int.reducePow, reduceCtorEq, ↓reduceIte]
  refine acond_b (fun h => ?_) (fun h => ?_) <;> (try simp only [decide_eq_true_eq, decide_eq_false_iff_not] at h) <;> simp (disch := omega) only [Sh.out h, go_sem, Nat.reduceAdd, Nat.reduceMul, Nat.reduceSub, Nat.reduceLeDiff, Nat.reduceLT, Nat.reduceEqDiff, Nat.reduceBEq, Nat.reduceBNe, Int.reduceNeg, Int.reduceToNat, Int.reduceLT, Int.reduceLE, Int.reduceEq, Int.reduceAdd, Int.reduceMul, Int.reduceSub, Nat.reduceSucc, Nat.reduceGT, Nat.reducePow, Int.reducePow, reduceCtorEq, ↓reduceIte]
  · have : ¬ a = b := fun e => h (by rw [e])
    simp [this]
  · have hab : a.length = b.length := by omega
    refine awp_for [0, 1] (fun k : Nat => [(5, .p (.int .i64 k))]) (fun _ => []) (fun k => k ≤ a.length ∧ ∀ j, j < k → nth a j = nth b j) (fun k => a.length - k) 0 (by simp) (Weak.mk ?_) ?_
    · simp (disch := omega) only [go_sem, Nat.reduceAdd, Nat.reduceMul, Nat.reduceSub, Nat.reduceLeDiff, Nat.reduceLT, Nat.reduceEqDiff, Nat.reduceBEq, Nat.reduceBNe, Int.reduceNeg, Int.reduceToNat, Int.reduceLT, Int.reduceLE, Int.reduceEq, Int.reduceAdd, Int.reduceMul, Int.reduceSub, Nat.reduceSucc, Nat.reduceGT, Nat.reducePow, Int.reducePow, reduceCtorEq, ↓reduceIte]
    · rintro k ⟨hk, hno⟩
      simp (disch := omega) only [go_sem, Nat.reduceAdd, Nat.reduceMul, Nat.reduceSub, Nat.reduceLeDiff, Nat.reduceLT, Nat.reduceEqDiff, Nat.reduceBEq, Nat.reduceBNe, Int.reduceNeg, Int.reduceToNat, Int.reduceLT, Int.reduceLE, Int.reduceEq, Int.reduceAdd, Int.reduceMul, Int.reduceSub, Nat.reduceSucc, Nat.reduceGT, Nat.reducePow, Int.reducePow, reduceCtorEq, ↓reduceIte]
      refine acond_b (fun h2 => ?_) (fun h2 => ?_) <;> (try simp only [decide_eq_true_eq, decide_eq_false_iff_not] at h2) <;> simp (disch := omega) only [Sh.out h2, go_sem, Nat.reduceAdd, Nat.reduceMul, Nat.reduceSub, Nat.reduceLeDiff, Nat.reduceLT, Nat.reduceEqDiff, Nat.reduceBEq, Nat.reduceBNe, Int.reduceNeg, Int.reduceToNat, Int.reduceLT, Int.reduceLE, Int.reduceEq, Int.reduceAdd, Int.reduceMul, Int.reduceSub, Nat.reduceSucc, Nat.reduceGT, Nat.reducePow, Int.reducePow, reduceCtorEq, ↓reduceIte]
      · have hk2 : k < a.length := by omega
        have hk3 : k < b.length := by omega
        refine awp_drawnA mixed (by kernel_rfl) (by kernel_rfl) ?_
        simp (disch := omega) only [eL, go_sem, Nat.reduceAdd, Nat.reduceMul, Nat.reduceSub, Nat.reduceLeDiff, Nat.reduceLT, Nat.reduceEqDiff, Nat.reduceBEq, Nat.reduceBNe, Int.reduceNeg, Int.reduceToNat, Int.reduceLT, Int.reduceLE, Int.reduceEq, Int.reduceAdd, Int.reduceMul, Int.reduceSub, Nat.reduceSucc, Nat.reduceGT, Nat.reducePow, Int.reducePow, reduceCtorEq, ↓reduceIte]
        refine exq_call (rsame_c (nth a k) (nth b k) false false (hal _ (nth_mem hk2)) (hbl _ (nth_mem hk3))) ?_
        simp (disch := omega) only [go_sem, Nat.reduceAdd, Nat.reduceMul, Nat.reduceSub, Nat.reduceLeDiff, Nat.reduceLT, Nat.reduceEqDiff, Nat.reduceBEq, Nat.reduceBNe, Int.reduceNeg, Int.reduceToNat, Int.reduceLT, Int.reduceLE, Int.reduceEq, Int.reduceAdd, Int.reduceMul, Int.reduceSub, Nat.reduceSucc, Nat.reduceGT, Nat.reducePow, Int.reducePow, reduceCtorEq, ↓reduceIte]
        refine acond_b (fun h3 => ?_) (fun h3 => ?_) <;> (try simp only [decide_eq_true_eq, decide_eq_false_iff_not] at h3) <;> simp (disch := omega) only [Sh.out h3, go_sem, Nat.reduceAdd, Nat.reduceMul, Nat.reduceSub, Nat.reduceLeDiff, Nat.reduceLT, Nat.reduceEqDiff, Nat.reduceBEq, Nat.reduceBNe, Int.reduceNeg, Int.reduceToNat, Int.reduceLT, Int.reduceLE, Int.reduceEq, Int.reduceAdd, Int.reduceMul, Int.reduceSub, Nat.reduceSucc, Nat.reduceGT, Nat.reducePow, Int.reducePow, reduceCtorEq, ↓reduceIte]
        · have : ¬ a = b := fun e => by rw [e] at h3; simp at h3
          simp [this]
        · have : nth a k = nth b k := by simpa using h3
          exact ⟨k + 1, ⟨by omega, upto_iff.2 ⟨hno, this⟩⟩, by omega, Weak.mk (by simp (disch := omega) only [go_sem, Nat.reduceAdd, Nat.reduceMul, Nat.reduceSub, Nat.reduceLeDiff, Nat.reduceLT, Nat.reduceEqDiff, Nat.reduceBEq, Nat.reduceBNe, Int.reduceNeg, Int.reduceToNat, Int.reduceLT, Int.reduceLE, Int.reduceEq, Int.reduceAdd, Int.reduceMul, Int.reduceSub, Nat.reduceSucc, Nat.reduceGT, Nat.reducePow, Int.reducePow, reduceCtorEq, ↓reduceIte])⟩
      · have hkl : k = a.length := by omega
        subst hkl
        have : a = b := list_eq_of_nth hab hno
        simp [this]
end Go.Proofs.Ytlbhefiehkmhjaa.K
