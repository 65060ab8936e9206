/- Contracts: sequence.All. -/
import Derived.Test.YtlbhefiehkmhjaaQ5
set_option linter.unusedVariables false
set_option linter.unusedSimpArgs false
namespace Go.Proofs.Ytlbhefiehkmhjaa.K
open Go Go.AM Go.Proofs
set_option maxRecDepth 8000
set_option maxHeartbeats 8000000

theorem clip_c (l : List Vis) (c : Bool) (hl : l.length ≤ 1048576) : ACalls Try.prog 56 [.p (.list c (l.map eVis))] [] fun x H' => x = .p (.list true (l.map eVis)) ∧ H' = [] := by
  refine acalls_pure (fn := Try.f56) Try.func56 rfl isF56 ?_
  simp (disch := omega) only [Try.f56, go_sem, Nat.reduceAdd, Nat.reduceMul, Nat.reduceSub, Nat.reduceLeDiff, Nat.reduceLT, Nat.reduceEqDiff, Nat.reduceBEq, Nat.reduceBNe, Int.reduceNeg, Int.reduceToNat, Int.reduceLT, Int.reduceLE, Int.reduceEq, Int.reduceAdd, Int.reduceMul, Int.reduceSub, Nat.reduceSucc, Nat.reduceGT, Nat.reducePow, Int.reducePow, reduceCtorEq, ↓reduceIte]

def eL (l : List Vis) : PV := .list false (l.map eVis)
@[go_sem] theorem okE_eL (l : List (List Vis)) : okE 1 (l.map eL) = true := okE_map fun _ => rfl
@[go_sem] theorem allS_eL (l : List (List Vis)) : allS 1 (l.map eL) = true := allS_map (f := eL) (S := 1) (fun _ => rfl) l
@[go_sem] theorem exAppV {H : List AM.Obj} {u2 : TypeId} {xs : List PV} {y : V} {k : V → List AM.Obj → Prop} {tt} : exApp Try.prog H 32 u2 (.p (.list true xs)) y (hide k tt) = pst ((appL (some (2, 16)) xs (asrcB (Try.prog.underlying u2) H y)).map .p) (hide (fun v => k v H) ⟨⟩) := exApp_list appF32

/-- the walk over all sequences -/
def walk (nx : List Vis → List Vis) : Nat → List Vis → List (List Vis) → List (List Vis) × Bool
  | 0, l, outs => (outs ++ [l], decide (outs.length + 1 ≤ 8192))
  | f + 1, l, outs => (nx l).foldl (fun acc v => if acc.2 = true then walk nx f (l ++ [v]) acc.1 else acc) (outs, true)

def stepW (nx : List Vis → List Vis) (f : Nat) (l : List Vis) (acc : List (List Vis) × Bool) (v : Vis) : List (List Vis) × Bool := if acc.2 = true then walk nx f (l ++ [v]) acc.1 else acc
theorem stepW_stop {nx f l} : ∀ (r : List Vis) (acc : List (List Vis) × Bool), acc.2 = false → r.foldl (stepW nx f l) acc = acc
  | [], acc, _ => rfl
  | v :: r, acc, h => by
    rw [List.foldl_cons, stepW, if_neg (by rw [h]; simp)]
    exact stepW_stop r acc h
theorem walk_len {nx : List Vis → List Vis} : ∀ (f : Nat) (l : List Vis) (outs : List (List Vis)), outs.length ≤ 8192 → (walk nx f l outs).2 = true → (walk nx f l outs).1.length ≤ 8192
  | 0, l, outs, _, h => by
    simp only [walk, decide_eq_true_eq] at h
    simp only [walk, List.length_append, List.length_cons, List.length_nil]
    omega
  | f + 1, l, outs, ho, h => by
    have key : ∀ (r : List Vis) (acc : List (List Vis) × Bool), acc.1.length ≤ 8192 → (r.foldl (stepW nx f l) acc).2 = true → (r.foldl (stepW nx f l) acc).1.length ≤ 8192 := by
      intro r
      induction r with
      | nil => intro acc h1 _; exact h1
      | cons v r ih =>
        intro acc h1 h2
        rw [List.foldl_cons] at h2 ⊢
        by_cases h3 : (stepW nx f l acc v).2 = true
        · refine ih _ ?_ h2
          by_cases h4 : acc.2 = true
          · rw [stepW, if_pos h4] at h3 ⊢
            exact walk_len f _ _ h1 h3
          · rw [stepW, if_neg h4]; exact h1
        · have h5 : (stepW nx f l acc v).2 = false := by simpa using h3
          rw [stepW_stop _ _ h5] at h2
          exact absurd h2 h3
    exact key (nx l) (outs, true) ho h

def HA (x : Inst) (S total : Nat) (outs : List (List Vis)) : List AM.Obj :=
  [instO x, .cells [.p (.int .i64 (S : Nat))], .cells [.p (.int .i64 (total : Nat))], .cells [.sl 5 0 outs.length outs.length], .cells [.fn (.func 55) [] [.ptr 2 0, .ptr 3 0, .ptr 0 0, .ptr 1 0, .ptr 4 0]], .elems 1 (outs.map eL)]

theorem walk_c (x : Inst) (S total : Nat) (hS : S < 9223372036854775808) (ho : x.orders.length ≤ 60) (ht : total ≤ 1000) (hbl : x.before.length ≤ 1048576) (hb : ∀ p ∈ x.before, 0 ≤ p.1 ∧ p.1 < x.orders.length) :
    ∀ (f : Nat) (l : List Vis) (c : Bool) (outs : List (List Vis)), l.length + f = total → (c = true → 0 < f) → outs.length ≤ 8192 →
    ACalls Try.prog 55 [.p (.list c (l.map eVis)), .ptr 2 0, .ptr 3 0, .ptr 0 0, .ptr 1 0, .ptr 4 0] (HA x S total outs) fun y H' => y = .p (.bool (walk (fun l => nextU x S l x.orders.length) f l outs).2) ∧ H' = HA x S total (walk (fun l => nextU x S l x.orders.length) f l outs).1
  | 0, l, c, outs, hlf, hc, hol => by
    have hc : c = false := by cases c <;> simp_all
    subst hc
    refine acalls_weak [] (fn := Try.f55) Try.func55 rfl isF55 ?_
    simp (disch := omega) only [Try.f55, HA, instO, go_sem, Nat.reduceAdd, Nat.reduceMul, Nat.reduceSub, Nat.reduceLeDiff, Nat.reduceLT, Nat.reduceEqDiff, Nat.reduceBEq, Nat.reduceBNe, Int.reduceNeg, Int.reduceToNat, Int.reduceLT, Int.reduceLE, Int.reduceEq, Int.reduceAdd, Int.reduceMul, Int.reduceSub, Nat.reduceSucc, Nat.reduceGT, Nat.reducePow, Int.reducePow, reduceCtorEq, ↓reduceIte]
    refine acond_b (fun h => ?_) (fun h => ?_) <;> (try simp only [decide_eq_true_eq, decide_eq_false_iff_not] at h) <;> simp (disch := omega) only [Sh.out h, go_sem, Nat.reduceAdd, Nat.reduceMul, Nat.reduceSub, Nat.reduceLeDiff, Nat.reduceLT, Nat.reduceEqDiff, Nat.reduceBEq, Nat.reduceBNe, Int.reduceNeg, Int.reduceToNat, Int.reduceLT, Int.reduceLE, Int.reduceEq, Int.reduceAdd, Int.reduceMul, Int.reduceSub, Nat.reduceSucc, Nat.reduceGT, Nat.reducePow, Int.reducePow, reduceCtorEq, ↓reduceIte]
    · refine ⟨.p (.bool (decide (outs.length + 1 ≤ 8192))), HA x S total (outs ++ [l]), Weak.mk ?_, rfl, rfl⟩
      simp (disch := omega) only [HA, instO, eL, go_sem, Nat.reduceAdd, Nat.reduceMul, Nat.reduceSub, Nat.reduceLeDiff, Nat.reduceLT, Nat.reduceEqDiff, Nat.reduceBEq, Nat.reduceBNe, Int.reduceNeg, Int.reduceToNat, Int.reduceLT, Int.reduceLE, Int.reduceEq, Int.reduceAdd, Int.reduceMul, Int.reduceSub, Nat.reduceSucc, Nat.reduceGT, Nat.reducePow, Int.reducePow, reduceCtorEq, ↓reduceIte]
      have e : decide (outs.length ≤ 8191) = decide ((outs.length : Int) + 1 ≤ 8192) := by
        rw [Bool.eq_iff_iff]; simp only [decide_eq_true_eq]; omega
      rw [e]
    · omega
  | f + 1, l, c, outs, hlf, hc, hol => by
    refine acalls_weak [] (fn := Try.f55) Try.func55 rfl isF55 ?_
    simp (disch := omega) only [Try.f55, HA, instO, go_sem, Nat.reduceAdd, Nat.reduceMul, Nat.reduceSub, Nat.reduceLeDiff, Nat.reduceLT, Nat.reduceEqDiff, Nat.reduceBEq, Nat.reduceBNe, Int.reduceNeg, Int.reduceToNat, Int.reduceLT, Int.reduceLE, Int.reduceEq, Int.reduceAdd, Int.reduceMul, Int.reduceSub, Nat.reduceSucc, Nat.reduceGT, Nat.reducePow, Int.reducePow, reduceCtorEq, ↓reduceIte]
    refine acond_b (fun h => ?_) (fun h => ?_) <;> (try simp only [decide_eq_true_eq, decide_eq_false_iff_not] at h) <;> simp (disch := omega) only [Sh.out h, go_sem, Nat.reduceAdd, Nat.reduceMul, Nat.reduceSub, Nat.reduceLeDiff, Nat.reduceLT, Nat.reduceEqDiff, Nat.reduceBEq, Nat.reduceBNe, Int.reduceNeg, Int.reduceToNat, Int.reduceLT, Int.reduceLE, Int.reduceEq, Int.reduceAdd, Int.reduceMul, Int.reduceSub, Nat.reduceSucc, Nat.reduceGT, Nat.reducePow, Int.reducePow, reduceCtorEq, ↓reduceIte]
    · omega
    · have hnx := seqNext_c x S l c hS (by omega) ho hbl hb
      refine (hnx).use ?_
      simp (disch := omega) only [go_sem, Nat.reduceAdd, Nat.reduceMul, Nat.reduceSub, Nat.reduceLeDiff, Nat.reduceLT, Nat.reduceEqDiff, Nat.reduceBEq, Nat.reduceBNe, Int.reduceNeg, Int.reduceToNat, Int.reduceLT, Int.reduceLE, Int.reduceEq, Int.reduceAdd, Int.reduceMul, Int.reduceSub, Nat.reduceSucc, Nat.reduceGT, Nat.reducePow, Int.reducePow, reduceCtorEq, ↓reduceIte]
      have hnl := nextU_len x S l x.orders.length
      have hw : walk (fun l => nextU x S l x.orders.length) (f + 1) l outs = (nextU x S l x.orders.length).foldl (stepW (fun l => nextU x S l x.orders.length) f l) (outs, true) := rfl
      generalize hgn : nextU x S l x.orders.length = nx at hnl hw ⊢
      rw [hw]
      refine awp_for [0, 5, 24, 25] (fun k : Nat => [(26, .p (.int .i64 k))]) (fun k => HA x S total ((nx.take k).foldl (stepW (fun l => nextU x S l x.orders.length) f l) (outs, true)).1)
        (fun k => k ≤ nx.length ∧ ((nx.take k).foldl (stepW (fun l => nextU x S l x.orders.length) f l) (outs, true)).2 = true ∧ ((nx.take k).foldl (stepW (fun l => nextU x S l x.orders.length) f l) (outs, true)).1.length ≤ 8192) (fun k => nx.length - k) 0 ⟨by simp, by simp, by simpa using hol⟩ (Weak.mk ?_) ?_
      · simp (disch := omega) only [HA, instO, List.take_zero, List.foldl_nil, go_sem, Nat.reduceAdd, Nat.reduceMul, Nat.reduceSub, Nat.reduceLeDiff, Nat.reduceLT, Nat.reduceEqDiff, Nat.reduceBEq, Nat.reduceBNe, Int.reduceNeg, Int.reduceToNat, Int.reduceLT, Int.reduceLE, Int.reduceEq, Int.reduceAdd, Int.reduceMul, Int.reduceSub, Nat.reduceSucc, Nat.reduceGT, Nat.reducePow, Int.reducePow, reduceCtorEq, ↓reduceIte]
      · rintro k ⟨hk, ht2, hl2⟩
        have hsucc : ∀ (hk2 : k < nx.length), (nx.take (k + 1)).foldl (stepW (fun l => nextU x S l x.orders.length) f l) (outs, true) = walk (fun l => nextU x S l x.orders.length) f (l ++ [nth nx k]) ((nx.take k).foldl (stepW (fun l => nextU x S l x.orders.length) f l) (outs, true)).1 := fun hk2 => by
          rw [List.take_succ_eq_append_getElem hk2, List.foldl_append, nth_get hk2, List.foldl_cons, List.foldl_nil, stepW, if_pos ht2]
        have hrest : nx.foldl (stepW (fun l => nextU x S l x.orders.length) f l) (outs, true) = (nx.drop (k + 1)).foldl (stepW (fun l => nextU x S l x.orders.length) f l) ((nx.take (k + 1)).foldl (stepW (fun l => nextU x S l x.orders.length) f l) (outs, true)) := by
          rw [← List.foldl_append, List.take_append_drop]
        generalize hacc : (nx.take k).foldl (stepW (fun l => nextU x S l x.orders.length) f l) (outs, true) = acc at ht2 hl2 hsucc ⊢
        simp (disch := omega) only [HA, instO, go_sem, Nat.reduceAdd, Nat.reduceMul, Nat.reduceSub, Nat.reduceLeDiff, Nat.reduceLT, Nat.reduceEqDiff, Nat.reduceBEq, Nat.reduceBNe, Int.reduceNeg, Int.reduceToNat, Int.reduceLT, Int.reduceLE, Int.reduceEq, Int.reduceAdd, Int.reduceMul, Int.reduceSub, Nat.reduceSucc, Nat.reduceGT, Nat.reducePow, Int.reducePow, reduceCtorEq, ↓reduceIte]
        refine acond_b (fun h2 => ?_) (fun h2 => ?_) <;> (try simp only [decide_eq_true_eq, decide_eq_false_iff_not] at h2) <;> simp (disch := omega) only [Sh.out h2, go_sem, Nat.reduceAdd, Nat.reduceMul, Nat.reduceSub, Nat.reduceLeDiff, Nat.reduceLT, Nat.reduceEqDiff, Nat.reduceBEq, Nat.reduceBNe, Int.reduceNeg, Int.reduceToNat, Int.reduceLT, Int.reduceLE, Int.reduceEq, Int.reduceAdd, Int.reduceMul, Int.reduceSub, Nat.reduceSucc, Nat.reduceGT, Nat.reducePow, Int.reducePow, reduceCtorEq, ↓reduceIte]
        · have hk2 : k < nx.length := by omega
          have hs := hsucc hk2
          have ih := walk_c x S total hS ho ht hbl hb f (l ++ [nth nx k]) false acc.1 (by simp; omega) (by simp) hl2
          have hwl := walk_len (nx := fun l => nextU x S l x.orders.length) f (l ++ [nth nx k]) acc.1 hl2
          rw [← hs] at ih hwl
          rw [hrest]
          generalize hacc' : (nx.take (k + 1)).foldl (stepW (fun l => nextU x S l x.orders.length) f l) (outs, true) = acc' at ih hwl ⊢
          refine awp_drawnS 6 mixed (by kernel_rfl) (by kernel_rfl) ?_
          simp (disch := omega) only [go_sem, Nat.reduceAdd, Nat.reduceMul, Nat.reduceSub, Nat.reduceLeDiff, Nat.reduceLT, Nat.reduceEqDiff, Nat.reduceBEq, Nat.reduceBNe, Int.reduceNeg, Int.reduceToNat, Int.reduceLT, Int.reduceLE, Int.reduceEq, Int.reduceAdd, Int.reduceMul, Int.reduceSub, Nat.reduceSucc, Nat.reduceGT, Nat.reducePow, Int.reducePow, reduceCtorEq, ↓reduceIte]
          refine exq_call (clip_c l c (by omega)) ?_
          simp (disch := omega) only [go_sem, Nat.reduceAdd, Nat.reduceMul, Nat.reduceSub, Nat.reduceLeDiff, Nat.reduceLT, Nat.reduceEqDiff, Nat.reduceBEq, Nat.reduceBNe, Int.reduceNeg, Int.reduceToNat, Int.reduceLT, Int.reduceLE, Int.reduceEq, Int.reduceAdd, Int.reduceMul, Int.reduceSub, Nat.reduceSucc, Nat.reduceGT, Nat.reducePow, Int.reducePow, reduceCtorEq, ↓reduceIte]
          rw [List.map_append] at ih
          refine ih.useP (L := [visOb (nth nx k)]) (by rfl) ?_ (by rfl) (by rfl)
          simp (disch := omega) only [HA, instO, visOb, go_sem, Nat.reduceAdd, Nat.reduceMul, Nat.reduceSub, Nat.reduceLeDiff, Nat.reduceLT, Nat.reduceEqDiff, Nat.reduceBEq, Nat.reduceBNe, Int.reduceNeg, Int.reduceToNat, Int.reduceLT, Int.reduceLE, Int.reduceEq, Int.reduceAdd, Int.reduceMul, Int.reduceSub, Nat.reduceSucc, Nat.reduceGT, Nat.reducePow, Int.reducePow, reduceCtorEq, ↓reduceIte]
          refine acond_b (fun h3 => ?_) (fun h3 => ?_) <;> (try simp only [decide_eq_true_eq, decide_eq_false_iff_not] at h3) <;> simp (disch := omega) only [Sh.out h3, go_sem, Nat.reduceAdd, Nat.reduceMul, Nat.reduceSub, Nat.reduceLeDiff, Nat.reduceLT, Nat.reduceEqDiff, Nat.reduceBEq, Nat.reduceBNe, Int.reduceNeg, Int.reduceToNat, Int.reduceLT, Int.reduceLE, Int.reduceEq, Int.reduceAdd, Int.reduceMul, Int.reduceSub, Nat.reduceSucc, Nat.reduceGT, Nat.reducePow, Int.reducePow, reduceCtorEq, ↓reduceIte]
          · have h4 : acc'.2 = false := by simpa using h3
            rw [stepW_stop _ _ h4, h4]
            exact ⟨_, _, Weak.mk (by simp (disch := omega) only [HA, instO, visOb, go_sem, Nat.reduceAdd, Nat.reduceMul, Nat.reduceSub, Nat.reduceLeDiff, Nat.reduceLT, Nat.reduceEqDiff, Nat.reduceBEq, Nat.reduceBNe, Int.reduceNeg, Int.reduceToNat, Int.reduceLT, Int.reduceLE, Int.reduceEq, Int.reduceAdd, Int.reduceMul, Int.reduceSub, Nat.reduceSucc, Nat.reduceGT, Nat.reducePow, Int.reducePow, reduceCtorEq, ↓reduceIte]), rfl, rfl⟩
          · have h4 : acc'.2 = true := by simpa using h3
            exact ⟨k + 1, ⟨by omega, by rw [hacc']; exact h4, by rw [hacc']; exact hwl h4⟩, by omega, Weak.mk (by simp (disch := omega) only [hacc', HA, instO, visOb, go_sem, Nat.reduceAdd, Nat.reduceMul, Nat.reduceSub, Nat.reduceLeDiff, Nat.reduceLT, Nat.reduceEqDiff, Nat.reduceBEq, Nat.reduceBNe, Int.reduceNeg, Int.reduceToNat, Int.reduceLT, Int.reduceLE, Int.reduceEq, Int.reduceAdd, Int.reduceMul, Int.reduceSub, Nat.reduceSucc, Nat.reduceGT, Nat.reducePow, Int.reducePow, reduceCtorEq, ↓reduceIte])⟩
        · have hkl : k = nx.length := by omega
          subst hkl
          rw [List.take_length] at hacc
          rw [hacc, ht2]
          exact ⟨_, _, Weak.mk (by simp (disch := omega) only [HA, instO, go_sem, Nat.reduceAdd, Nat.reduceMul, Nat.reduceSub, Nat.reduceLeDiff, Nat.reduceLT, Nat.reduceEqDiff, Nat.reduceBEq, Nat.reduceBNe, Int.reduceNeg, Int.reduceToNat, Int.reduceLT, Int.reduceLE, Int.reduceEq, Int.reduceAdd, Int.reduceMul, Int.reduceSub, Nat.reduceSucc, Nat.reduceGT, Nat.reducePow, Int.reducePow, reduceCtorEq, ↓reduceIte]), rfl, rfl⟩
end Go.Proofs.Ytlbhefiehkmhjaa.K
