/- Contracts: sequence.Orders, Same, Less. -/
import Derived.Test.YtlbhefiehkmhjaaQ2
set_option linter.unusedVariables false
set_option linter.unusedSimpArgs false
namespace Go.Proofs.Ytlbhefiehkmhjaa.K
open Go Go.AM Go.Proofs
set_option maxRecDepth 8000
set_option maxHeartbeats 8000000

@[go_sem] theorem wkV_tupe {H : List AM.Obj} {n cs cs'} : wkV H n (.tup cs) (.tup cs') = (cs' = cs ∧ refBs n cs = true) := by simp [wkV, frz, refB]
@[go_sem] theorem resOne_two {a b : V} : resOne [a, b] = .tup [a, b] := Eq.trans rfl rfl
/-- a call that yields two values -/
theorem useT {g : FuncId} {args : List V} {a b : PV} {H : List AM.Obj} {K : V → List AM.Obj → Prop} (h : ACalls Try.prog g args [] fun x H' => x = .tup [.p a, .p b] ∧ H' = []) (k : K (.tup [.p a, .p b]) H) (ha : refBs 0 args = true := by rfl) : ACalls Try.prog g args H K :=
  (h.behind ha H).mono fun x H' hq => by
    obtain ⟨y, H1, ⟨rfl, rfl⟩, rfl, rfl⟩ := hq
    simpa [shV, shVs] using k

/-- the set of the orders of visits -/
def ordS (l : List Vis) : Nat := l.foldl (fun s v => s ||| pw v.order.toNat) 0
def inS (v : Vis) : Bool := decide (0 ≤ v.order ∧ v.order ≤ 62)
theorem ordS_succ {l : List Vis} {k : Nat} (hk : k < l.length) : ordS (l.take (k + 1)) = ordS (l.take k) ||| pw (nth l k).order.toNat := by
  rw [List.take_succ_eq_append_getElem hk, ordS, List.foldl_append, nth_get hk]; rfl
theorem ordS_lt : ∀ (k : Nat) {l : List Vis}, k ≤ l.length → (∀ v ∈ l.take k, inS v = true) → ordS (l.take k) < 9223372036854775808
  | 0, l, _, _ => by simp [ordS]
  | k + 1, l, hk, h => by
    have hk2 : k < l.length := by omega
    have ih := ordS_lt k (l := l) (by omega) fun v hv => h v (List.take_subset_take_left l (by omega) hv)
    have hv := h (nth l k) (by rw [nth_get hk2]; exact List.mem_iff_getElem.2 ⟨k, by simp; omega, by simp⟩)
    simp only [inS, decide_eq_true_eq] at hv
    have h2 : pw (nth l k).order.toNat ≤ pw 62 := pw_le (by omega)
    have h3 := pw_62
    rw [ordS_succ hk2]
    exact Nat.or_lt_two_pow (n := 63) (by omega) (by omega)
def ordR (l : List Vis) : Int × Int := if l.all inS = true then (((ordS l : Nat) : Int), 0) else (0, 2)

theorem seqOrders_c (r : Rte) (hl : r.visits.length ≤ 1048576) : ACalls Try.prog 24 [.p (eRte r)] [] fun x H' => x = .tup [.p (.int .i64 (ordR r.visits).1), .p (.int .i64 (ordR r.visits).2)] ∧ H' = [] := by
  refine acalls_weak [] (fn := Try.f24) Try.func24 rfl isF24 ?_
  simp (disch := omega) only [Try.f24, go_sem, Nat.reduceAdd, Nat.reduceMul, Nat.reduceSub, Nat.reduceLeDiff, Nat.reduceLT, Nat.reduceEqDiff, Nat.reduceBEq, Nat.reduceBNe, Int.reduceNeg, Int.reduceToNat, Int.reduceLT, Int.reduceLE, Int.reduceEq, Int.reduceAdd, Int.reduceMul, Int.reduceSub, Nat.reduceSucc, Nat.reduceGT, Nat.reducePow, Int.reducePow, reduceCtorEq, ↓reduceIte]
  refine awp_for [8, 9] (fun k : Nat => [(4, .p (.int .i64 (ordS (r.visits.take k) : Nat))), (10, .p (.int .i64 k))]) (fun _ => [rteO r]) (fun k => k ≤ r.visits.length ∧ ∀ j, j < k → inS (nth r.visits j) = true) (fun k => r.visits.length - k) 0 (by simp) (Weak.mk ?_) ?_
  · simp (disch := omega) only [rteO, ordS, List.take_zero, List.foldl_nil, go_sem, Nat.reduceAdd, Nat.reduceMul, Nat.reduceSub, Nat.reduceLeDiff, Nat.reduceLT, Nat.reduceEqDiff, Nat.reduceBEq, Nat.reduceBNe, Int.reduceNeg, Int.reduceToNat, Int.reduceLT, Int.reduceLE, Int.reduceEq, Int.reduceAdd, Int.reduceMul, Int.reduceSub, Nat.reduceSucc, Nat.reduceGT, Nat.reducePow, Int.reducePow, reduceCtorEq, ↓reduceIte]
  · rintro k ⟨hk, hno⟩
    have hlt := ordS_lt k hk fun v hv => by
      obtain ⟨j, hj, rfl⟩ := List.mem_iff_getElem.1 hv
      simp at hj
      rw [List.getElem_take, ← nth_get (by omega)]
      exact hno j (by omega)
    simp (disch := omega) only [rteO, go_sem, Nat.reduceAdd, Nat.reduceMul, Nat.reduceSub, Nat.reduceLeDiff, Nat.reduceLT, Nat.reduceEqDiff, Nat.reduceBEq, Nat.reduceBNe, Int.reduceNeg, Int.reduceToNat, Int.reduceLT, Int.reduceLE, Int.reduceEq, Int.reduceAdd, Int.reduceMul, Int.reduceSub, Nat.reduceSucc, Nat.reduceGT, Nat.reducePow, Int.reducePow, reduceCtorEq, ↓reduceIte]
    refine acond_b (fun h => ?_) (fun h => ?_) <;> (try simp only [decide_eq_true_eq, decide_eq_false_iff_not] at h) <;> simp (disch := omega) only [Sh.out h, go_sem, Nat.reduceAdd, Nat.reduceMul, Nat.reduceSub, Nat.reduceLeDiff, Nat.reduceLT, Nat.reduceEqDiff, Nat.reduceBEq, Nat.reduceBNe, Int.reduceNeg, Int.reduceToNat, Int.reduceLT, Int.reduceLE, Int.reduceEq, Int.reduceAdd, Int.reduceMul, Int.reduceSub, Nat.reduceSucc, Nat.reduceGT, Nat.reducePow, Int.reducePow, reduceCtorEq, ↓reduceIte]
    · have hk2 : k < r.visits.length := by omega
      have hbad : inS (nth r.visits k) = false → ordR r.visits = (0, 2) := fun h4 => by
        have : r.visits.all inS = false := by rw [List.all_eq_false]; exact ⟨nth r.visits k, nth_mem hk2, by rw [h4]; simp⟩
        simp [ordR, this]
      have hs := ordS_succ hk2
      have hp : (nth r.visits k).order ≤ 62 → pw (nth r.visits k).order.toNat ≤ 4611686018427387904 := fun h => by rw [← pw_62]; exact pw_le (by omega)
      refine aguard_f (fun h1 => ?_) (fun h1 => ?_) <;> (try simp only [decide_eq_true_eq, decide_eq_false_iff_not] at h1) <;> simp (disch := omega) only [Sh.out h1, go_sem, Nat.reduceAdd, Nat.reduceMul, Nat.reduceSub, Nat.reduceLeDiff, Nat.reduceLT, Nat.reduceEqDiff, Nat.reduceBEq, Nat.reduceBNe, Int.reduceNeg, Int.reduceToNat, Int.reduceLT, Int.reduceLE, Int.reduceEq, Int.reduceAdd, Int.reduceMul, Int.reduceSub, Nat.reduceSucc, Nat.reduceGT, Nat.reducePow, Int.reducePow, reduceCtorEq, ↓reduceIte]
      · have e := hbad (by simp [inS]; omega)
        rw [e]
        exact ⟨_, _, Weak.mk (by simp (disch := omega) only [go_sem, Nat.reduceAdd, Nat.reduceMul, Nat.reduceSub, Nat.reduceLeDiff, Nat.reduceLT, Nat.reduceEqDiff, Nat.reduceBEq, Nat.reduceBNe, Int.reduceNeg, Int.reduceToNat, Int.reduceLT, Int.reduceLE, Int.reduceEq, Int.reduceAdd, Int.reduceMul, Int.reduceSub, Nat.reduceSucc, Nat.reduceGT, Nat.reducePow, Int.reducePow, reduceCtorEq, ↓reduceIte]), rfl, rfl⟩
      · refine acond_b (fun h2 => ?_) (fun h2 => ?_) <;> (try simp only [decide_eq_true_eq, decide_eq_false_iff_not] at h2) <;> simp (disch := omega) only [Sh.out h2, go_sem, Nat.reduceAdd, Nat.reduceMul, Nat.reduceSub, Nat.reduceLeDiff, Nat.reduceLT, Nat.reduceEqDiff, Nat.reduceBEq, Nat.reduceBNe, Int.reduceNeg, Int.reduceToNat, Int.reduceLT, Int.reduceLE, Int.reduceEq, Int.reduceAdd, Int.reduceMul, Int.reduceSub, Nat.reduceSucc, Nat.reduceGT, Nat.reducePow, Int.reducePow, reduceCtorEq, ↓reduceIte]
        · have e := hbad (by simp [inS]; omega)
          rw [e]
          exact ⟨_, _, Weak.mk (by simp (disch := omega) only [go_sem, Nat.reduceAdd, Nat.reduceMul, Nat.reduceSub, Nat.reduceLeDiff, Nat.reduceLT, Nat.reduceEqDiff, Nat.reduceBEq, Nat.reduceBNe, Int.reduceNeg, Int.reduceToNat, Int.reduceLT, Int.reduceLE, Int.reduceEq, Int.reduceAdd, Int.reduceMul, Int.reduceSub, Nat.reduceSucc, Nat.reduceGT, Nat.reducePow, Int.reducePow, reduceCtorEq, ↓reduceIte]), rfl, rfl⟩
        · exact ⟨k + 1, ⟨by omega, upto_iff.2 ⟨hno, by simp [inS]; omega⟩⟩, by omega, Weak.mk (by simp (disch := omega) only [rteO, hs, go_sem, Nat.reduceAdd, Nat.reduceMul, Nat.reduceSub, Nat.reduceLeDiff, Nat.reduceLT, Nat.reduceEqDiff, Nat.reduceBEq, Nat.reduceBNe, Int.reduceNeg, Int.reduceToNat, Int.reduceLT, Int.reduceLE, Int.reduceEq, Int.reduceAdd, Int.reduceMul, Int.reduceSub, Nat.reduceSucc, Nat.reduceGT, Nat.reducePow, Int.reducePow, reduceCtorEq, ↓reduceIte])⟩
    · have hkl : k = r.visits.length := by omega
      subst hkl
      have : r.visits.all inS = true := by
        rw [List.all_eq_true]
        intro v hv
        obtain ⟨j, hj, rfl⟩ := List.mem_iff_getElem.1 hv
        rw [← nth_get hj]; exact hno j hj
      have e : ordR r.visits = (((ordS r.visits : Nat) : Int), 0) := by simp [ordR, this]
      rw [e, List.take_length]
      exact ⟨_, _, Weak.mk (by simp (disch := omega) only [go_sem, Nat.reduceAdd, Nat.reduceMul, Nat.reduceSub, Nat.reduceLeDiff, Nat.reduceLT, Nat.reduceEqDiff, Nat.reduceBEq, Nat.reduceBNe, Int.reduceNeg, Int.reduceToNat, Int.reduceLT, Int.reduceLE, Int.reduceEq, Int.reduceAdd, Int.reduceMul, Int.reduceSub, Nat.reduceSucc, Nat.reduceGT, Nat.reducePow, Int.reducePow, reduceCtorEq, ↓reduceIte]), rfl, rfl⟩

theorem list_eq_of_nth {α : Type} [Inhabited α] {a b : List α} (hl : a.length = b.length) (h : ∀ j, j < a.length → nth a j = nth b j) : a = b := by
  refine List.ext_getElem hl fun i h1 h2 => ?_
  have := h i h1
  rwa [nth_get h1, nth_get h2] at this

theorem equal_c (a b : List Vis) (c d : Bool) (ha : a.length ≤ 1048576) (hb : b.length ≤ 1048576) : ACalls Try.prog 65 [.p (.list c (a.map eVis)), .p (.list d (b.map eVis))] [] fun x H' => x = .p (.bool (decide (a = b))) ∧ H' = [] := by
  refine acalls_pure (fn := Try.f65) Try.func65 rfl isF65 ?_
  simp (disch := omega) only [Try.f65, go_sem, Nat.reduceAdd, Nat.reduceMul, Nat.reduceSub, Nat.reduceLeDiff, Nat.reduceLT, Nat.reduceEqDiff, Nat.reduceBEq, Nat.reduceBNe, Int.reduceNeg, Int.reduceToNat, Int.reduceLT, Int.reduceLE, Int.reduceEq, Int.reduceAdd, Int.reduceMul, Int.reduceSub, Nat.reduceSucc, Nat.reduceGT, Nat.reducePow, Int.reducePow, reduceCtorEq, ↓reduceIte]
  refine acond_b (fun h => ?_) (fun h => ?_) <;> (try simp only [decide_eq_true_eq, decide_eq_false_iff_not] at h) <;> simp (disch := omega) only [Sh.out h, go_sem, Nat.reduceAdd, Nat.reduceMul, Nat.reduceSub, Nat.reduceLeDiff, Nat.reduceLT, Nat.reduceEqDiff, Nat.reduceBEq, Nat.reduceBNe, Int.reduceNeg, Int.reduceToNat, Int.reduceLT, Int.reduceLE, Int.reduceEq, Int.reduceAdd, Int.reduceMul, Int.reduceSub, Nat.reduceSucc, Nat.reduceGT, Nat.reducePow, Int.reducePow, reduceCtorEq, ↓reduceIte]
  · have : ¬ a = b := fun e => h (by rw [e])
    simp [this]
  · have hab : a.length = b.length := by omega
    refine awp_for [0, 1, 12] (fun k : Nat => [(13, .p (.int .i64 k))]) (fun _ => []) (fun k => k ≤ a.length ∧ ∀ j, j < k → nth a j = nth b j) (fun k => a.length - k) 0 (by simp) (Weak.mk ?_) ?_
    · simp (disch := omega) only [go_sem, Nat.reduceAdd, Nat.reduceMul, Nat.reduceSub, Nat.reduceLeDiff, Nat.reduceLT, Nat.reduceEqDiff, Nat.reduceBEq, Nat.reduceBNe, Int.reduceNeg, Int.reduceToNat, Int.reduceLT, Int.reduceLE, Int.reduceEq, Int.reduceAdd, Int.reduceMul, Int.reduceSub, Nat.reduceSucc, Nat.reduceGT, Nat.reducePow, Int.reducePow, reduceCtorEq, ↓reduceIte]
    · rintro k ⟨hk, hno⟩
      simp (disch := omega) only [go_sem, Nat.reduceAdd, Nat.reduceMul, Nat.reduceSub, Nat.reduceLeDiff, Nat.reduceLT, Nat.reduceEqDiff, Nat.reduceBEq, Nat.reduceBNe, Int.reduceNeg, Int.reduceToNat, Int.reduceLT, Int.reduceLE, Int.reduceEq, Int.reduceAdd, Int.reduceMul, Int.reduceSub, Nat.reduceSucc, Nat.reduceGT, Nat.reducePow, Int.reducePow, reduceCtorEq, ↓reduceIte]
      refine acond_b (fun h2 => ?_) (fun h2 => ?_) <;> (try simp only [decide_eq_true_eq, decide_eq_false_iff_not] at h2) <;> simp (disch := omega) only [Sh.out h2, go_sem, Nat.reduceAdd, Nat.reduceMul, Nat.reduceSub, Nat.reduceLeDiff, Nat.reduceLT, Nat.reduceEqDiff, Nat.reduceBEq, Nat.reduceBNe, Int.reduceNeg, Int.reduceToNat, Int.reduceLT, Int.reduceLE, Int.reduceEq, Int.reduceAdd, Int.reduceMul, Int.reduceSub, Nat.reduceSucc, Nat.reduceGT, Nat.reducePow, Int.reducePow, reduceCtorEq, ↓reduceIte]
      · have hk2 : k < a.length := by omega
        refine awp_drawnA mixed (by kernel_rfl) (by kernel_rfl) ?_
        simp (disch := omega) only [go_sem, Nat.reduceAdd, Nat.reduceMul, Nat.reduceSub, Nat.reduceLeDiff, Nat.reduceLT, Nat.reduceEqDiff, Nat.reduceBEq, Nat.reduceBNe, Int.reduceNeg, Int.reduceToNat, Int.reduceLT, Int.reduceLE, Int.reduceEq, Int.reduceAdd, Int.reduceMul, Int.reduceSub, Nat.reduceSucc, Nat.reduceGT, Nat.reducePow, Int.reducePow, reduceCtorEq, ↓reduceIte]
        refine acond_b (fun h3 => ?_) (fun h3 => ?_) <;> (try simp only [decide_eq_true_eq, decide_eq_false_iff_not] at h3) <;> simp (disch := omega) only [Sh.out h3, go_sem, Nat.reduceAdd, Nat.reduceMul, Nat.reduceSub, Nat.reduceLeDiff, Nat.reduceLT, Nat.reduceEqDiff, Nat.reduceBEq, Nat.reduceBNe, Int.reduceNeg, Int.reduceToNat, Int.reduceLT, Int.reduceLE, Int.reduceEq, Int.reduceAdd, Int.reduceMul, Int.reduceSub, Nat.reduceSucc, Nat.reduceGT, Nat.reducePow, Int.reducePow, reduceCtorEq, ↓reduceIte]
        · have : ¬ a = b := fun e => by rw [e] at h3; simp at h3
          simp [this]
        · have : nth a k = nth b k := by
            rw [vis_eq]; simpa using h3
          exact ⟨k + 1, ⟨by omega, upto_iff.2 ⟨hno, this⟩⟩, by omega, Weak.mk (by simp (disch := omega) only [go_sem, Nat.reduceAdd, Nat.reduceMul, Nat.reduceSub, Nat.reduceLeDiff, Nat.reduceLT, Nat.reduceEqDiff, Nat.reduceBEq, Nat.reduceBNe, Int.reduceNeg, Int.reduceToNat, Int.reduceLT, Int.reduceLE, Int.reduceEq, Int.reduceAdd, Int.reduceMul, Int.reduceSub, Nat.reduceSucc, Nat.reduceGT, Nat.reducePow, Int.reducePow, reduceCtorEq, ↓reduceIte])⟩
      · have hkl : k = a.length := by omega
        subst hkl
        have : a = b := list_eq_of_nth hab hno
        simp [this]
theorem seqSame_c (a b : List Vis) (c d : Bool) (ha : a.length ≤ 1048576) (hb : b.length ≤ 1048576) : ACalls Try.prog 26 [.p (.list c (a.map eVis)), .p (.list d (b.map eVis))] [] fun x H' => x = .p (.bool (decide (a = b))) ∧ H' = [] := by
  refine acalls_pure (fn := Try.f26) Try.func26 rfl isF26 ?_
  simp (disch := omega) only [Try.f26, go_sem, Nat.reduceAdd, Nat.reduceMul, Nat.reduceSub, Nat.reduceLeDiff, Nat.reduceLT, Nat.reduceEqDiff, Nat.reduceBEq, Nat.reduceBNe, Int.reduceNeg, Int.reduceToNat, Int.reduceLT, Int.reduceLE, Int.reduceEq, Int.reduceAdd, Int.reduceMul, Int.reduceSub, Nat.reduceSucc, Nat.reduceGT, Nat.reducePow, Int.reducePow, reduceCtorEq, ↓reduceIte]
  refine (equal_c a b c d ha hb).use ?_
  simp (disch := omega) only [go_sem, Nat.reduceAdd, Nat.reduceMul, Nat.reduceSub, Nat.reduceLeDiff, Nat.reduceLT, Nat.reduceEqDiff, Nat.reduceBEq, Nat.reduceBNe, Int.reduceNeg, Int.reduceToNat, Int.reduceLT, Int.reduceLE, Int.reduceEq, Int.reduceAdd, Int.reduceMul, Int.reduceSub, Nat.reduceSucc, Nat.reduceGT, Nat.reducePow, Int.reducePow, reduceCtorEq, ↓reduceIte]

def cmpI (a b : Int) : Int := if a < b then -1 else if b < a then 1 else 0
theorem isNaN_c (a : Int) : ACalls Try.prog 125 [.p (.int .i64 a)] [] fun x H' => x = .p (.bool false) ∧ H' = [] := by
  refine acalls_pure (fn := Try.f125) Try.func125 rfl isF125 ?_
  simp (disch := omega) only [Try.f125, go_sem, Nat.reduceAdd, Nat.reduceMul, Nat.reduceSub, Nat.reduceLeDiff, Nat.reduceLT, Nat.reduceEqDiff, Nat.reduceBEq, Nat.reduceBNe, Int.reduceNeg, Int.reduceToNat, Int.reduceLT, Int.reduceLE, Int.reduceEq, Int.reduceAdd, Int.reduceMul, Int.reduceSub, Nat.reduceSucc, Nat.reduceGT, Nat.reducePow, Int.reducePow, reduceCtorEq, ↓reduceIte]
  try simp
theorem cmp_c (a b : Int) : ACalls Try.prog 103 [.p (.int .i64 a), .p (.int .i64 b)] [] fun x H' => x = .p (.int .i64 (cmpI a b)) ∧ H' = [] := by
  refine acalls_pure (fn := Try.f103) Try.func103 rfl isF103 ?_
  simp (disch := omega) only [Try.f103, go_sem, Nat.reduceAdd, Nat.reduceMul, Nat.reduceSub, Nat.reduceLeDiff, Nat.reduceLT, Nat.reduceEqDiff, Nat.reduceBEq, Nat.reduceBNe, Int.reduceNeg, Int.reduceToNat, Int.reduceLT, Int.reduceLE, Int.reduceEq, Int.reduceAdd, Int.reduceMul, Int.reduceSub, Nat.reduceSucc, Nat.reduceGT, Nat.reducePow, Int.reducePow, reduceCtorEq, ↓reduceIte]
  refine (isNaN_c a).use ?_
  simp (disch := omega) only [go_sem, Nat.reduceAdd, Nat.reduceMul, Nat.reduceSub, Nat.reduceLeDiff, Nat.reduceLT, Nat.reduceEqDiff, Nat.reduceBEq, Nat.reduceBNe, Int.reduceNeg, Int.reduceToNat, Int.reduceLT, Int.reduceLE, Int.reduceEq, Int.reduceAdd, Int.reduceMul, Int.reduceSub, Nat.reduceSucc, Nat.reduceGT, Nat.reducePow, Int.reducePow, reduceCtorEq, ↓reduceIte]
  refine (isNaN_c b).use ?_
  simp (disch := omega) only [go_sem, Nat.reduceAdd, Nat.reduceMul, Nat.reduceSub, Nat.reduceLeDiff, Nat.reduceLT, Nat.reduceEqDiff, Nat.reduceBEq, Nat.reduceBNe, Int.reduceNeg, Int.reduceToNat, Int.reduceLT, Int.reduceLE, Int.reduceEq, Int.reduceAdd, Int.reduceMul, Int.reduceSub, Nat.reduceSucc, Nat.reduceGT, Nat.reducePow, Int.reducePow, reduceCtorEq, ↓reduceIte]
  refine acond_b (fun h => ?_) (fun h => ?_) <;> (try simp only [decide_eq_true_eq, decide_eq_false_iff_not] at h) <;> simp (disch := omega) only [Sh.out h, go_sem, Nat.reduceAdd, Nat.reduceMul, Nat.reduceSub, Nat.reduceLeDiff, Nat.reduceLT, Nat.reduceEqDiff, Nat.reduceBEq, Nat.reduceBNe, Int.reduceNeg, Int.reduceToNat, Int.reduceLT, Int.reduceLE, Int.reduceEq, Int.reduceAdd, Int.reduceMul, Int.reduceSub, Nat.reduceSucc, Nat.reduceGT, Nat.reducePow, Int.reducePow, reduceCtorEq, ↓reduceIte]
  · simp [cmpI, h]
  · refine acond_b (fun h2 => ?_) (fun h2 => ?_) <;> (try simp only [decide_eq_true_eq, decide_eq_false_iff_not] at h2) <;> simp (disch := omega) only [Sh.out h2, go_sem, Nat.reduceAdd, Nat.reduceMul, Nat.reduceSub, Nat.reduceLeDiff, Nat.reduceLT, Nat.reduceEqDiff, Nat.reduceBEq, Nat.reduceBNe, Int.reduceNeg, Int.reduceToNat, Int.reduceLT, Int.reduceLE, Int.reduceEq, Int.reduceAdd, Int.reduceMul, Int.reduceSub, Nat.reduceSucc, Nat.reduceGT, Nat.reducePow, Int.reducePow, reduceCtorEq, ↓reduceIte]
    · simp [cmpI, h, h2]
    · simp [cmpI, h, h2]
def orI (l : List Int) : Int := (l.find? fun n => decide (n ≠ 0)).getD 0
theorem orI_at {l : List Int} {k : Nat} (hk : k < l.length) (h : nth l k ≠ 0) (hno : ∀ j, j < k → nth l j = 0) : orI l = nth l k := by
  have : l.find? (fun n => decide (n ≠ 0)) = some (nth l k) := by
    rw [List.find?_eq_some_iff_getElem]
    refine ⟨by simpa using h, k, hk, (nth_get hk).symm, fun j hj => ?_⟩
    have := hno j hj
    rw [nth_get (by omega)] at this
    simp [this]
  simp only [orI, this, Option.getD_some]
theorem orI_no {l : List Int} (hno : ∀ j, j < l.length → nth l j = 0) : orI l = 0 := by
  have : l.find? (fun n => decide (n ≠ 0)) = none := by
    rw [List.find?_eq_none]
    intro x hx
    obtain ⟨j, hj, rfl⟩ := List.mem_iff_getElem.1 hx
    rw [← nth_get hj, hno j hj]; simp
  simp only [orI, this, Option.getD_none]
theorem or_c (l : List Int) (c : Bool) (hl : l.length ≤ 100) : ACalls Try.prog 102 [.p (.list c (l.map eI))] [] fun x H' => x = .p (.int .i64 (orI l)) ∧ H' = [] := by
  refine acalls_pure (fn := Try.f102) Try.func102 rfl isF102 ?_
  simp (disch := omega) only [Try.f102, go_sem, Nat.reduceAdd, Nat.reduceMul, Nat.reduceSub, Nat.reduceLeDiff, Nat.reduceLT, Nat.reduceEqDiff, Nat.reduceBEq, Nat.reduceBNe, Int.reduceNeg, Int.reduceToNat, Int.reduceLT, Int.reduceLE, Int.reduceEq, Int.reduceAdd, Int.reduceMul, Int.reduceSub, Nat.reduceSucc, Nat.reduceGT, Nat.reducePow, Int.reducePow, reduceCtorEq, ↓reduceIte]
  refine awp_for [3, 6, 7] (fun k : Nat => [(8, .p (.int .i64 k))]) (fun _ => []) (fun k => k ≤ l.length ∧ ∀ j, j < k → nth l j = 0) (fun k => l.length - k) 0 (by simp) (Weak.mk ?_) ?_
  · simp (disch := omega) only [go_sem, Nat.reduceAdd, Nat.reduceMul, Nat.reduceSub, Nat.reduceLeDiff, Nat.reduceLT, Nat.reduceEqDiff, Nat.reduceBEq, Nat.reduceBNe, Int.reduceNeg, Int.reduceToNat, Int.reduceLT, Int.reduceLE, Int.reduceEq, Int.reduceAdd, Int.reduceMul, Int.reduceSub, Nat.reduceSucc, Nat.reduceGT, Nat.reducePow, Int.reducePow, reduceCtorEq, ↓reduceIte]
  · rintro k ⟨hk, hno⟩
    simp (disch := omega) only [go_sem, Nat.reduceAdd, Nat.reduceMul, Nat.reduceSub, Nat.reduceLeDiff, Nat.reduceLT, Nat.reduceEqDiff, Nat.reduceBEq, Nat.reduceBNe, Int.reduceNeg, Int.reduceToNat, Int.reduceLT, Int.reduceLE, Int.reduceEq, Int.reduceAdd, Int.reduceMul, Int.reduceSub, Nat.reduceSucc, Nat.reduceGT, Nat.reducePow, Int.reducePow, reduceCtorEq, ↓reduceIte]
    refine acond_b (fun h => ?_) (fun h => ?_) <;> (try simp only [decide_eq_true_eq, decide_eq_false_iff_not] at h) <;> simp (disch := omega) only [Sh.out h, go_sem, Nat.reduceAdd, Nat.reduceMul, Nat.reduceSub, Nat.reduceLeDiff, Nat.reduceLT, Nat.reduceEqDiff, Nat.reduceBEq, Nat.reduceBNe, Int.reduceNeg, Int.reduceToNat, Int.reduceLT, Int.reduceLE, Int.reduceEq, Int.reduceAdd, Int.reduceMul, Int.reduceSub, Nat.reduceSucc, Nat.reduceGT, Nat.reducePow, Int.reducePow, reduceCtorEq, ↓reduceIte]
    · have hk2 : k < l.length := by omega
      refine acond_b (fun h2 => ?_) (fun h2 => ?_) <;> (try simp only [decide_eq_true_eq, decide_eq_false_iff_not] at h2) <;> simp (disch := omega) only [Sh.out h2, go_sem, Nat.reduceAdd, Nat.reduceMul, Nat.reduceSub, Nat.reduceLeDiff, Nat.reduceLT, Nat.reduceEqDiff, Nat.reduceBEq, Nat.reduceBNe, Int.reduceNeg, Int.reduceToNat, Int.reduceLT, Int.reduceLE, Int.reduceEq, Int.reduceAdd, Int.reduceMul, Int.reduceSub, Nat.reduceSucc, Nat.reduceGT, Nat.reducePow, Int.reducePow, reduceCtorEq, ↓reduceIte]
      · rw [orI_at hk2 h2 hno]
      · exact ⟨k + 1, ⟨by omega, upto_iff.2 ⟨hno, by simpa using h2⟩⟩, by omega, Weak.mk (by simp (disch := omega) only [go_sem, Nat.reduceAdd, Nat.reduceMul, Nat.reduceSub, Nat.reduceLeDiff, Nat.reduceLT, Nat.reduceEqDiff, Nat.reduceBEq, Nat.reduceBNe, Int.reduceNeg, Int.reduceToNat, Int.reduceLT, Int.reduceLE, Int.reduceEq, Int.reduceAdd, Int.reduceMul, Int.reduceSub, Nat.reduceSucc, Nat.reduceGT, Nat.reducePow, Int.reducePow, reduceCtorEq, ↓reduceIte])⟩
    · have hkl : k = l.length := by omega
      subst hkl
      rw [orI_no hno]
theorem orI_two (a b : Int) : orI [a, b] = if a = 0 then b else a := by
  by_cases h : a = 0
  · by_cases h2 : b = 0 <;> simp [orI, h, h2]
  · simp [orI, h]
def dn (v : Vis) : Int := if v.drp = true then 1 else 0
theorem number_c (v : Vis) : ACalls Try.prog 101 [.p (eVis v)] [] fun x H' => x = .p (.int .i64 (dn v)) ∧ H' = [] := by
  refine acalls_pure (fn := Try.f101) Try.func101 rfl isF101 ?_
  simp (disch := omega) only [Try.f101, go_sem, Nat.reduceAdd, Nat.reduceMul, Nat.reduceSub, Nat.reduceLeDiff, Nat.reduceLT, Nat.reduceEqDiff, Nat.reduceBEq, Nat.reduceBNe, Int.reduceNeg, Int.reduceToNat, Int.reduceLT, Int.reduceLE, Int.reduceEq, Int.reduceAdd, Int.reduceMul, Int.reduceSub, Nat.reduceSucc, Nat.reduceGT, Nat.reducePow, Int.reducePow, reduceCtorEq, ↓reduceIte]
  refine acond_b (fun h => ?_) (fun h => ?_) <;> (try simp only [decide_eq_true_eq, decide_eq_false_iff_not] at h) <;> simp (disch := omega) only [Sh.out h, go_sem, Nat.reduceAdd, Nat.reduceMul, Nat.reduceSub, Nat.reduceLeDiff, Nat.reduceLT, Nat.reduceEqDiff, Nat.reduceBEq, Nat.reduceBNe, Int.reduceNeg, Int.reduceToNat, Int.reduceLT, Int.reduceLE, Int.reduceEq, Int.reduceAdd, Int.reduceMul, Int.reduceSub, Nat.reduceSucc, Nat.reduceGT, Nat.reducePow, Int.reducePow, reduceCtorEq, ↓reduceIte]
  · simp [dn, h]
  · simp [dn, h]
def cmpV (a b : Vis) : Int := if cmpI a.order b.order = 0 then cmpI (dn a) (dn b) else cmpI a.order b.order
theorem compare_c (a b : Vis) : ACalls Try.prog 64 [.p (eVis a), .p (eVis b)] [] fun x H' => x = .p (.int .i64 (cmpV a b)) ∧ H' = [] := by
  refine acalls_pure (fn := Try.f64) Try.func64 rfl isF64 ?_
  simp (disch := omega) only [Try.f64, go_sem, Nat.reduceAdd, Nat.reduceMul, Nat.reduceSub, Nat.reduceLeDiff, Nat.reduceLT, Nat.reduceEqDiff, Nat.reduceBEq, Nat.reduceBNe, Int.reduceNeg, Int.reduceToNat, Int.reduceLT, Int.reduceLE, Int.reduceEq, Int.reduceAdd, Int.reduceMul, Int.reduceSub, Nat.reduceSucc, Nat.reduceGT, Nat.reducePow, Int.reducePow, reduceCtorEq, ↓reduceIte]
  refine awp_drawnA mixed (by kernel_rfl) (by kernel_rfl) ?_
  simp (disch := omega) only [go_sem, Nat.reduceAdd, Nat.reduceMul, Nat.reduceSub, Nat.reduceLeDiff, Nat.reduceLT, Nat.reduceEqDiff, Nat.reduceBEq, Nat.reduceBNe, Int.reduceNeg, Int.reduceToNat, Int.reduceLT, Int.reduceLE, Int.reduceEq, Int.reduceAdd, Int.reduceMul, Int.reduceSub, Nat.reduceSucc, Nat.reduceGT, Nat.reducePow, Int.reducePow, reduceCtorEq, ↓reduceIte]
  refine exq_call (cmp_c a.order b.order) ?_
  simp (disch := omega) only [go_sem, Nat.reduceAdd, Nat.reduceMul, Nat.reduceSub, Nat.reduceLeDiff, Nat.reduceLT, Nat.reduceEqDiff, Nat.reduceBEq, Nat.reduceBNe, Int.reduceNeg, Int.reduceToNat, Int.reduceLT, Int.reduceLE, Int.reduceEq, Int.reduceAdd, Int.reduceMul, Int.reduceSub, Nat.reduceSucc, Nat.reduceGT, Nat.reducePow, Int.reducePow, reduceCtorEq, ↓reduceIte]
  refine exq_call (number_c a) ?_
  simp (disch := omega) only [go_sem, Nat.reduceAdd, Nat.reduceMul, Nat.reduceSub, Nat.reduceLeDiff, Nat.reduceLT, Nat.reduceEqDiff, Nat.reduceBEq, Nat.reduceBNe, Int.reduceNeg, Int.reduceToNat, Int.reduceLT, Int.reduceLE, Int.reduceEq, Int.reduceAdd, Int.reduceMul, Int.reduceSub, Nat.reduceSucc, Nat.reduceGT, Nat.reducePow, Int.reducePow, reduceCtorEq, ↓reduceIte]
  refine exq_call (number_c b) ?_
  simp (disch := omega) only [go_sem, Nat.reduceAdd, Nat.reduceMul, Nat.reduceSub, Nat.reduceLeDiff, Nat.reduceLT, Nat.reduceEqDiff, Nat.reduceBEq, Nat.reduceBNe, Int.reduceNeg, Int.reduceToNat, Int.reduceLT, Int.reduceLE, Int.reduceEq, Int.reduceAdd, Int.reduceMul, Int.reduceSub, Nat.reduceSucc, Nat.reduceGT, Nat.reducePow, Int.reducePow, reduceCtorEq, ↓reduceIte]
  refine exq_call (cmp_c (dn a) (dn b)) ?_
  simp (disch := omega) only [go_sem, Nat.reduceAdd, Nat.reduceMul, Nat.reduceSub, Nat.reduceLeDiff, Nat.reduceLT, Nat.reduceEqDiff, Nat.reduceBEq, Nat.reduceBNe, Int.reduceNeg, Int.reduceToNat, Int.reduceLT, Int.reduceLE, Int.reduceEq, Int.reduceAdd, Int.reduceMul, Int.reduceSub, Nat.reduceSucc, Nat.reduceGT, Nat.reducePow, Int.reducePow, reduceCtorEq, ↓reduceIte]
  refine exq_call (or_c [cmpI a.order b.order, cmpI (dn a) (dn b)] false (by simp)) ?_
  simp (disch := omega) only [go_sem, Nat.reduceAdd, Nat.reduceMul, Nat.reduceSub, Nat.reduceLeDiff, Nat.reduceLT, Nat.reduceEqDiff, Nat.reduceBEq, Nat.reduceBNe, Int.reduceNeg, Int.reduceToNat, Int.reduceLT, Int.reduceLE, Int.reduceEq, Int.reduceAdd, Int.reduceMul, Int.reduceSub, Nat.reduceSucc, Nat.reduceGT, Nat.reducePow, Int.reducePow, reduceCtorEq, ↓reduceIte]
  rw [orI_two, cmpV]
end Go.Proofs.Ytlbhefiehkmhjaa.K
