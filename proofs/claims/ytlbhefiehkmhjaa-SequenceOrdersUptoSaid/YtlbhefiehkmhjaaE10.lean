/- Contracts: all orders, checked. -/
import Derived.Test.YtlbhefiehkmhjaaE9
set_option linter.unusedVariables false
set_option linter.unusedSimpArgs false
namespace Go.Proofs.Ytlbhefiehkmhjaa.K
open Go Go.AM Go.Proofs
set_option maxRecDepth 8000
set_option maxHeartbeats 16000000

theorem ck11_c (n : Net) (d ty : Int) (l : List Ord) (c : Bool) (hw : n.wf 1048576) (hl : l.length ≤ 1048576) (hlw : ∀ t ∈ l, t.wf 1048576) :
    ACalls Try.prog 90 [.p (eNet n), .p (.int .i64 d), .p (.int .i64 ty), .p (.list c (l.map eOrd))] [] fun x H' => x = .sl 0 0 (ordersF n.places.length d ty l l.length).length (ordersF n.places.length d ty l l.length).length ∧ H' = [.elems 2 ((ordersF n.places.length d ty l l.length).map eF)] := by
  obtain ⟨w1, w2, w3, w4⟩ := hw
  suffices hh : ACalls Try.prog 90 [.p (eNet n), .p (.int .i64 d), .p (.int .i64 ty), .p (.list c (l.map eOrd))] [] fun x H' => ∃ m : List Flt, m = ordersF n.places.length d ty l l.length ∧ x = .sl 0 0 m.length m.length ∧ H' = [.elems 2 (m.map eF)] by
    refine hh.mono ?_
    rintro x H' ⟨m, rfl, h1, h2⟩
    exact ⟨h1, h2⟩
  refine acalls_freshE [2] (fn := Try.f90) Try.func90 rfl isF90 ?_
  simp (disch := omega) only [Try.f90, go_sem, Nat.reduceAdd, Nat.reduceMul, Nat.reduceSub, Nat.reduceLeDiff, Nat.reduceLT, Nat.reduceEqDiff, Nat.reduceBEq, Nat.reduceBNe, Int.reduceNeg, Int.reduceToNat, Int.reduceLT, Int.reduceLE, Int.reduceEq, Int.reduceAdd, Int.reduceMul, Int.reduceSub, Nat.reduceSucc, Nat.reduceGT, Nat.reducePow, Int.reducePow, reduceCtorEq, ↓reduceIte]
  refine awp_weak (Weak.ofNil 9 2 (by simp (disch := omega) only [go_sem, Nat.reduceAdd, Nat.reduceMul, Nat.reduceSub, Nat.reduceLeDiff, Nat.reduceLT, Nat.reduceEqDiff, Nat.reduceBEq, Nat.reduceBNe, Int.reduceNeg, Int.reduceToNat, Int.reduceLT, Int.reduceLE, Int.reduceEq, Int.reduceAdd, Int.reduceMul, Int.reduceSub, Nat.reduceSucc, Nat.reduceGT, Nat.reducePow, Int.reducePow, reduceCtorEq, ↓reduceIte]) (by simp) (Weak.refl _ _ _)) ?_
  refine awp_join [1, 2, 3, 4] (fun m : List Flt => [(9, .sl 1 0 m.length m.length)]) (fun m => netH n ++ [.elems 2 (m.map eF)]) (fun m => m = ordersF n.places.length d ty l 0) ?_ ?_
  · simp (disch := omega) only [go_sem, Nat.reduceAdd, Nat.reduceMul, Nat.reduceSub, Nat.reduceLeDiff, Nat.reduceLT, Nat.reduceEqDiff, Nat.reduceBEq, Nat.reduceBNe, Int.reduceNeg, Int.reduceToNat, Int.reduceLT, Int.reduceLE, Int.reduceEq, Int.reduceAdd, Int.reduceMul, Int.reduceSub, Nat.reduceSucc, Nat.reduceGT, Nat.reducePow, Int.reducePow, reduceCtorEq, ↓reduceIte]
    refine acond_b (fun h => ?_) (fun h => ?_) <;> (try simp only [decide_eq_true_eq, decide_eq_false_iff_not] at h) <;> simp (disch := omega) only [Sh.out h, go_sem, Nat.reduceAdd, Nat.reduceMul, Nat.reduceSub, Nat.reduceLeDiff, Nat.reduceLT, Nat.reduceEqDiff, Nat.reduceBEq, Nat.reduceBNe, Int.reduceNeg, Int.reduceToNat, Int.reduceLT, Int.reduceLE, Int.reduceEq, Int.reduceAdd, Int.reduceMul, Int.reduceSub, Nat.reduceSucc, Nat.reduceGT, Nat.reducePow, Int.reducePow, reduceCtorEq, ↓reduceIte]
    · exact ⟨[(4, [])], by rw [ordersF, if_neg (by omega)]; rfl, Weak.mk (by simp (disch := omega) only [netH, go_sem, Nat.reduceAdd, Nat.reduceMul, Nat.reduceSub, Nat.reduceLeDiff, Nat.reduceLT, Nat.reduceEqDiff, Nat.reduceBEq, Nat.reduceBNe, Int.reduceNeg, Int.reduceToNat, Int.reduceLT, Int.reduceLE, Int.reduceEq, Int.reduceAdd, Int.reduceMul, Int.reduceSub, Nat.reduceSucc, Nat.reduceGT, Nat.reducePow, Int.reducePow, reduceCtorEq, ↓reduceIte])⟩
    · exact ⟨[], by rw [ordersF, if_pos (by omega)]; rfl, Weak.mk (by simp (disch := omega) only [netH, go_sem, Nat.reduceAdd, Nat.reduceMul, Nat.reduceSub, Nat.reduceLeDiff, Nat.reduceLT, Nat.reduceEqDiff, Nat.reduceBEq, Nat.reduceBNe, Int.reduceNeg, Int.reduceToNat, Int.reduceLT, Int.reduceLE, Int.reduceEq, Int.reduceAdd, Int.reduceMul, Int.reduceSub, Nat.reduceSucc, Nat.reduceGT, Nat.reducePow, Int.reducePow, reduceCtorEq, ↓reduceIte])⟩
  · intro m hm
    refine awp_sound [] _ _ _ _ ?_
    simp (disch := omega) only [netH, go_sem, Nat.reduceAdd, Nat.reduceMul, Nat.reduceSub, Nat.reduceLeDiff, Nat.reduceLT, Nat.reduceEqDiff, Nat.reduceBEq, Nat.reduceBNe, Int.reduceNeg, Int.reduceToNat, Int.reduceLT, Int.reduceLE, Int.reduceEq, Int.reduceAdd, Int.reduceMul, Int.reduceSub, Nat.reduceSucc, Nat.reduceGT, Nat.reducePow, Int.reducePow, reduceCtorEq, ↓reduceIte]
    refine awp_for [1, 2, 3, 4] (fun q : Nat × List Flt => [(9, .sl 1 0 q.2.length q.2.length), (10, .p (.int .i64 q.1))]) (fun q => netH n ++ [.elems 2 (q.2.map eF)]) (fun q => q.1 ≤ l.length ∧ q.2 = ordersF n.places.length d ty l q.1) (fun q => l.length - q.1) (0, m) ⟨by simp, hm⟩ (Weak.mk ?_) ?_
    · simp (disch := omega) only [netH, go_sem, Nat.reduceAdd, Nat.reduceMul, Nat.reduceSub, Nat.reduceLeDiff, Nat.reduceLT, Nat.reduceEqDiff, Nat.reduceBEq, Nat.reduceBNe, Int.reduceNeg, Int.reduceToNat, Int.reduceLT, Int.reduceLE, Int.reduceEq, Int.reduceAdd, Int.reduceMul, Int.reduceSub, Nat.reduceSucc, Nat.reduceGT, Nat.reducePow, Int.reducePow, reduceCtorEq, ↓reduceIte]
    · clear hm
      rintro ⟨k, m⟩ ⟨hk, hm⟩
      simp only at hk hm
      have hml := ordersF_len n.places.length d ty l k
      rw [← hm] at hml
      simp (disch := omega) only [netH, go_sem, Nat.reduceAdd, Nat.reduceMul, Nat.reduceSub, Nat.reduceLeDiff, Nat.reduceLT, Nat.reduceEqDiff, Nat.reduceBEq, Nat.reduceBNe, Int.reduceNeg, Int.reduceToNat, Int.reduceLT, Int.reduceLE, Int.reduceEq, Int.reduceAdd, Int.reduceMul, Int.reduceSub, Nat.reduceSucc, Nat.reduceGT, Nat.reducePow, Int.reducePow, reduceCtorEq, ↓reduceIte]
      refine acond_b (fun h => ?_) (fun h => ?_) <;> (try simp only [decide_eq_true_eq, decide_eq_false_iff_not] at h) <;> simp (disch := omega) only [Sh.out h, go_sem, Nat.reduceAdd, Nat.reduceMul, Nat.reduceSub, Nat.reduceLeDiff, Nat.reduceLT, Nat.reduceEqDiff, Nat.reduceBEq, Nat.reduceBNe, Int.reduceNeg, Int.reduceToNat, Int.reduceLT, Int.reduceLE, Int.reduceEq, Int.reduceAdd, Int.reduceMul, Int.reduceSub, Nat.reduceSucc, Nat.reduceGT, Nat.reducePow, Int.reducePow, reduceCtorEq, ↓reduceIte]
      · have hk2 : k < l.length := by omega
        have hI : I64 (k : Int) := by omega
        have hrl := ordRules_len n.places.length d ty l k
        refine ((rules11_c n.places.length d ty l c k hk2 hl w1 (hlw _ (nth_mem hk2))).frozen (by simp)).use ?_
        simp (disch := omega) only [go_sem, Nat.reduceAdd, Nat.reduceMul, Nat.reduceSub, Nat.reduceLeDiff, Nat.reduceLT, Nat.reduceEqDiff, Nat.reduceBEq, Nat.reduceBNe, Int.reduceNeg, Int.reduceToNat, Int.reduceLT, Int.reduceLE, Int.reduceEq, Int.reduceAdd, Int.reduceMul, Int.reduceSub, Nat.reduceSucc, Nat.reduceGT, Nat.reducePow, Int.reducePow, reduceCtorEq, ↓reduceIte]
        generalize hre : ordRules n.places.length d ty l k = e at hrl ⊢
        refine awp_for [1, 2, 3, 4, 10, 11] (fun q : Nat × List Flt => [(9, .sl 1 0 q.2.length q.2.length), (12, .p (.int .i64 q.1))]) (fun q => netH n ++ [.elems 2 (q.2.map eF)]) (fun q => q.1 ≤ e.length ∧ q.2 = ordersF n.places.length d ty l k ++ (e.take q.1).map fun e => (e, decI k)) (fun q => e.length - q.1) (0, m) ⟨by simp, by simp [hm]⟩ (Weak.mk ?_) ?_
        · simp (disch := omega) only [netH, go_sem, Nat.reduceAdd, Nat.reduceMul, Nat.reduceSub, Nat.reduceLeDiff, Nat.reduceLT, Nat.reduceEqDiff, Nat.reduceBEq, Nat.reduceBNe, Int.reduceNeg, Int.reduceToNat, Int.reduceLT, Int.reduceLE, Int.reduceEq, Int.reduceAdd, Int.reduceMul, Int.reduceSub, Nat.reduceSucc, Nat.reduceGT, Nat.reducePow, Int.reducePow, reduceCtorEq, ↓reduceIte]
        · clear hm hml
          rintro ⟨j, m⟩ ⟨hj, hm⟩
          simp only at hj hm
          have hml := ordersF_len n.places.length d ty l k
          have hml2 : m.length ≤ 1 + 8 * k + 8 := by rw [hm]; simp; omega
          simp (disch := omega) only [netH, go_sem, Nat.reduceAdd, Nat.reduceMul, Nat.reduceSub, Nat.reduceLeDiff, Nat.reduceLT, Nat.reduceEqDiff, Nat.reduceBEq, Nat.reduceBNe, Int.reduceNeg, Int.reduceToNat, Int.reduceLT, Int.reduceLE, Int.reduceEq, Int.reduceAdd, Int.reduceMul, Int.reduceSub, Nat.reduceSucc, Nat.reduceGT, Nat.reducePow, Int.reducePow, reduceCtorEq, ↓reduceIte]
          refine acond_b (fun h2 => ?_) (fun h2 => ?_) <;> (try simp only [decide_eq_true_eq, decide_eq_false_iff_not] at h2) <;> simp (disch := omega) only [Sh.out h2, go_sem, Nat.reduceAdd, Nat.reduceMul, Nat.reduceSub, Nat.reduceLeDiff, Nat.reduceLT, Nat.reduceEqDiff, Nat.reduceBEq, Nat.reduceBNe, Int.reduceNeg, Int.reduceToNat, Int.reduceLT, Int.reduceLE, Int.reduceEq, Int.reduceAdd, Int.reduceMul, Int.reduceSub, Nat.reduceSucc, Nat.reduceGT, Nat.reducePow, Int.reducePow, reduceCtorEq, ↓reduceIte]
          · have hj2 : j < e.length := by omega
            refine awp_drawnS 9 mixed (by kernel_rfl) (by kernel_rfl) ?_
            simp (disch := omega) only [go_sem, Nat.reduceAdd, Nat.reduceMul, Nat.reduceSub, Nat.reduceLeDiff, Nat.reduceLT, Nat.reduceEqDiff, Nat.reduceBEq, Nat.reduceBNe, Int.reduceNeg, Int.reduceToNat, Int.reduceLT, Int.reduceLE, Int.reduceEq, Int.reduceAdd, Int.reduceMul, Int.reduceSub, Nat.reduceSucc, Nat.reduceGT, Nat.reducePow, Int.reducePow, reduceCtorEq, ↓reduceIte]
            refine exq_call (dec01_c k hI) ?_
            simp (disch := omega) only [go_sem, Nat.reduceAdd, Nat.reduceMul, Nat.reduceSub, Nat.reduceLeDiff, Nat.reduceLT, Nat.reduceEqDiff, Nat.reduceBEq, Nat.reduceBNe, Int.reduceNeg, Int.reduceToNat, Int.reduceLT, Int.reduceLE, Int.reduceEq, Int.reduceAdd, Int.reduceMul, Int.reduceSub, Nat.reduceSucc, Nat.reduceGT, Nat.reducePow, Int.reducePow, reduceCtorEq, ↓reduceIte]
            refine ⟨(j + 1, m ++ [(nth e j, decI k)]), ⟨by simp only; omega, ?_⟩, by simp only; omega, Weak.mk (by simp (disch := omega) only [netH, go_sem, Nat.reduceAdd, Nat.reduceMul, Nat.reduceSub, Nat.reduceLeDiff, Nat.reduceLT, Nat.reduceEqDiff, Nat.reduceBEq, Nat.reduceBNe, Int.reduceNeg, Int.reduceToNat, Int.reduceLT, Int.reduceLE, Int.reduceEq, Int.reduceAdd, Int.reduceMul, Int.reduceSub, Nat.reduceSucc, Nat.reduceGT, Nat.reducePow, Int.reducePow, reduceCtorEq, ↓reduceIte])⟩
            simp only [hm, List.append_assoc]
            rw [List.take_succ_eq_append_getElem hj2, List.map_append, nth_get hj2]
            rfl
          · have hjl : j = e.length := by omega
            subst hjl
            refine ⟨(k + 1, m), ⟨by simp only; omega, ?_⟩, by simp only; omega, Weak.mk (by simp (disch := omega) only [netH, go_sem, Nat.reduceAdd, Nat.reduceMul, Nat.reduceSub, Nat.reduceLeDiff, Nat.reduceLT, Nat.reduceEqDiff, Nat.reduceBEq, Nat.reduceBNe, Int.reduceNeg, Int.reduceToNat, Int.reduceLT, Int.reduceLE, Int.reduceEq, Int.reduceAdd, Int.reduceMul, Int.reduceSub, Nat.reduceSucc, Nat.reduceGT, Nat.reducePow, Int.reducePow, reduceCtorEq, ↓reduceIte])⟩
            simp only [hm, ordersF_succ, hre, List.take_length]
      · have hkn : k = l.length := by omega
        subst hkn
        exact ⟨m, hm, 1, by simp (disch := omega) only [netH, go_sem, Nat.reduceAdd, Nat.reduceMul, Nat.reduceSub, Nat.reduceLeDiff, Nat.reduceLT, Nat.reduceEqDiff, Nat.reduceBEq, Nat.reduceBNe, Int.reduceNeg, Int.reduceToNat, Int.reduceLT, Int.reduceLE, Int.reduceEq, Int.reduceAdd, Int.reduceMul, Int.reduceSub, Nat.reduceSucc, Nat.reduceGT, Nat.reducePow, Int.reducePow, reduceCtorEq, ↓reduceIte]⟩

theorem stpOk_iff {s : Stp} : stpOk s = true ↔ ((s.place = -1 ∧ s.opn = 0 ∧ s.cls = 0 ∧ s.serv = 0) ∨ (0 ≤ s.place ∧ 0 ≤ s.opn ∧ s.opn ≤ s.cls ∧ s.cls ≤ 4096 ∧ 0 ≤ s.serv ∧ s.serv ≤ 4096)) := by simp [stpOk]
/-- an order that is right among others -/
structure OrdOk (np : Nat) (d ty : Int) (l : List Ord) (i : Nat) : Prop where
  name : nameOk (nth l i).name = true
  twin : ∀ j, j < i → (nth l j).name ≠ (nth l i).name
  load : loadOk (nth l i).load d = true
  pick : -1 ≤ (nth l i).pick.place ∧ (nth l i).pick.place < np
  drp : -1 ≤ (nth l i).drp.place ∧ (nth l i).drp.place < np
  one : ¬ ((nth l i).pick.place = -1 ∧ (nth l i).drp.place = -1)
  pstp : stpOk (nth l i).pick = true
  dstp : stpOk (nth l i).drp = true
  skills : 0 ≤ (nth l i).skills ∧ (nth l i).skills ≤ 1073741823
  arg : argOk (nth l i) ty = true
theorem sel_nil {b : Bool} {e : Int} : sel b e = [] ↔ b = true := by unfold sel; split <;> simp_all
theorem ordRules_nil {np : Nat} {d ty : Int} {l : List Ord} {i : Nat} : ordRules np d ty l i = [] ↔ OrdOk np d ty l i := by
  simp only [ordRules, List.append_eq_nil_iff, sel_nil, Bool.and_eq_true, decide_eq_true_eq, rng, noTwin_true]
  constructor
  · rintro ⟨⟨⟨⟨⟨⟨⟨a1, a2⟩, a3⟩, a4⟩, a5⟩, a6⟩, a7⟩, a8⟩
    exact ⟨a1, a2, a3, by omega, by omega, a5, a6.1, a6.2, a7, a8⟩
  · intro h
    obtain ⟨b1, b2⟩ := h.pick
    obtain ⟨b3, b4⟩ := h.drp
    exact ⟨⟨⟨⟨⟨⟨⟨h.name, h.twin⟩, h.load⟩, by omega, by omega⟩, h.one⟩, h.pstp, h.dstp⟩, h.skills⟩, h.arg⟩
def ordersOk (np : Nat) (d ty : Int) (l : List Ord) : Prop := l.length ≤ 10 ∧ ∀ i, i < l.length → OrdOk np d ty l i
theorem ordersF_nil {np : Nat} {d ty : Int} {l : List Ord} : ordersF np d ty l l.length = [] ↔ ordersOk np d ty l := by
  simp only [ordersF, List.append_eq_nil_iff, List.flatMap_eq_nil_iff, List.mem_range, List.map_eq_nil_iff, ordRules_nil, ordersOk]
  refine and_congr ?_ Iff.rfl
  split <;> simp_all
theorem ordersF_at {np : Nat} {d ty : Int} {l : List Ord} (hl : l.length ≤ 1048576) : ∀ f ∈ ordersF np d ty l l.length, pF 20 f := by
  intro f hf
  simp only [ordersF, List.mem_append, List.mem_flatMap, List.mem_range, List.mem_map] at hf
  rcases hf with hf | ⟨i, hi, e, he, rfl⟩
  · split at hf <;> simp at hf
    subst hf; simp [pF]
  · exact decI_len i (by omega)
end Go.Proofs.Ytlbhefiehkmhjaa.K
