/- Contracts: the specification of sequences: extended. -/
import Derived.Test.YtlbhefiehkmhjaaN2
set_option linter.unusedVariables false
set_option linter.unusedSimpArgs false
namespace Go.Proofs.Ytlbhefiehkmhjaa.K
open Go Go.AM Go.Proofs
set_option maxRecDepth 8000
set_option maxHeartbeats 8000000

theorem extended_c (x : Inst) (S : Nat) (hS : S < 9223372036854775808) (ho : x.orders.length ≤ 60) (hbl : x.before.length ≤ 1048576) (hp : Plc x) (hv : Val x.orders.length x.before) (ha : Alw x S) :
    ∀ (f : Nat) (l : List Vis) (c : Bool) (outs : List (List Vis)), l.length + f = totU x S x.orders.length → (c = true → 0 < f) → outs.length ≤ 8193 → Gr x S l →
    ACalls Try.prog 59 [.p (eInst x), .p (.int .i64 (S : Nat)), .p (.list c (l.map eVis)), .sl 1 0 outs.length outs.length] [instO x, .elems 1 (outs.map eL)] fun y H' => y = .sl 1 0 (ext (fun l => nextU x S l x.orders.length) f l outs).length (ext (fun l => nextU x S l x.orders.length) f l outs).length ∧ H' = [instO x, .elems 1 ((ext (fun l => nextU x S l x.orders.length) f l outs).map eL)] := by
  have hb : ∀ p ∈ x.before, 0 ≤ p.1 ∧ p.1 < x.orders.length := fun p hp => ⟨(hv p hp).1, (hv p hp).2.1⟩
  intro f
  induction f with
  | zero =>
    intro l c outs hlf hc hol hg
    have hc : c = false := by cases c <;> simp_all
    subst hc
    have htl := totU_le x S x.orders.length
    have hnil := (hg.next_nil ha ho hv).2 (by omega)
    refine acalls_weak [] (fn := Try.f59) Try.func59 rfl isF59 ?_
    simp (disch := omega) only [Try.f59, instO, go_sem, Nat.reduceAdd, Nat.reduceMul, Nat.reduceSub, Nat.reduceLeDiff, Nat.reduceLT, Nat.reduceEqDiff, Nat.reduceBEq, Nat.reduceBNe, Int.reduceNeg, Int.reduceToNat, Int.reduceLT, Int.reduceLE, Int.reduceEq, Int.reduceAdd, Int.reduceMul, Int.reduceSub, Nat.reduceSucc, Nat.reduceGT, Nat.reducePow, Int.reducePow, reduceCtorEq, ↓reduceIte]
    refine acond_b (fun h => ?_) (fun h => ?_) <;> (try simp only [decide_eq_true_eq, decide_eq_false_iff_not] at h) <;> simp (disch := omega) only [Sh.out h, go_sem, Nat.reduceAdd, Nat.reduceMul, Nat.reduceSub, Nat.reduceLeDiff, Nat.reduceLT, Nat.reduceEqDiff, Nat.reduceBEq, Nat.reduceBNe, Int.reduceNeg, Int.reduceToNat, Int.reduceLT, Int.reduceLE, Int.reduceEq, Int.reduceAdd, Int.reduceMul, Int.reduceSub, Nat.reduceSucc, Nat.reduceGT, Nat.reducePow, Int.reducePow, reduceCtorEq, ↓reduceIte]
    · rw [ext, if_pos (by omega)]
      exact ⟨_, _, Weak.mk (by simp (disch := omega) only [instO, go_sem, Nat.reduceAdd, Nat.reduceMul, Nat.reduceSub, Nat.reduceLeDiff, Nat.reduceLT, Nat.reduceEqDiff, Nat.reduceBEq, Nat.reduceBNe, Int.reduceNeg, Int.reduceToNat, Int.reduceLT, Int.reduceLE, Int.reduceEq, Int.reduceAdd, Int.reduceMul, Int.reduceSub, Nat.reduceSucc, Nat.reduceGT, Nat.reducePow, Int.reducePow, reduceCtorEq, ↓reduceIte]), rfl, rfl⟩
    · rw [ext, if_neg (by omega)]
      have hnx := rnext_c x S l false hS (by omega) ho hbl hp hb
      rw [hnil] at hnx
      refine (hnx).use ?_
      simp (disch := omega) only [go_sem, Nat.reduceAdd, Nat.reduceMul, Nat.reduceSub, Nat.reduceLeDiff, Nat.reduceLT, Nat.reduceEqDiff, Nat.reduceBEq, Nat.reduceBNe, Int.reduceNeg, Int.reduceToNat, Int.reduceLT, Int.reduceLE, Int.reduceEq, Int.reduceAdd, Int.reduceMul, Int.reduceSub, Nat.reduceSucc, Nat.reduceGT, Nat.reducePow, Int.reducePow, reduceCtorEq, ↓reduceIte]
      exact ⟨_, _, Weak.mk (by simp (disch := omega) only [eL, instO, go_sem, Nat.reduceAdd, Nat.reduceMul, Nat.reduceSub, Nat.reduceLeDiff, Nat.reduceLT, Nat.reduceEqDiff, Nat.reduceBEq, Nat.reduceBNe, Int.reduceNeg, Int.reduceToNat, Int.reduceLT, Int.reduceLE, Int.reduceEq, Int.reduceAdd, Int.reduceMul, Int.reduceSub, Nat.reduceSucc, Nat.reduceGT, Nat.reducePow, Int.reducePow, reduceCtorEq, ↓reduceIte]), rfl, rfl⟩
  | succ f ih =>
    intro l c outs hlf hc hol hg
    have htl := totU_le x S x.orders.length
    have hnil : ¬ nextU x S l x.orders.length = [] := fun e => by have := (hg.next_nil ha ho hv).1 e; omega
    refine acalls_weak [] (fn := Try.f59) Try.func59 rfl isF59 ?_
    simp (disch := omega) only [Try.f59, instO, go_sem, Nat.reduceAdd, Nat.reduceMul, Nat.reduceSub, Nat.reduceLeDiff, Nat.reduceLT, Nat.reduceEqDiff, Nat.reduceBEq, Nat.reduceBNe, Int.reduceNeg, Int.reduceToNat, Int.reduceLT, Int.reduceLE, Int.reduceEq, Int.reduceAdd, Int.reduceMul, Int.reduceSub, Nat.reduceSucc, Nat.reduceGT, Nat.reducePow, Int.reducePow, reduceCtorEq, ↓reduceIte]
    refine acond_b (fun h => ?_) (fun h => ?_) <;> (try simp only [decide_eq_true_eq, decide_eq_false_iff_not] at h) <;> simp (disch := omega) only [Sh.out h, go_sem, Nat.reduceAdd, Nat.reduceMul, Nat.reduceSub, Nat.reduceLeDiff, Nat.reduceLT, Nat.reduceEqDiff, Nat.reduceBEq, Nat.reduceBNe, Int.reduceNeg, Int.reduceToNat, Int.reduceLT, Int.reduceLE, Int.reduceEq, Int.reduceAdd, Int.reduceMul, Int.reduceSub, Nat.reduceSucc, Nat.reduceGT, Nat.reducePow, Int.reducePow, reduceCtorEq, ↓reduceIte]
    · rw [ext, if_pos (by omega)]
      exact ⟨_, _, Weak.mk (by simp (disch := omega) only [instO, go_sem, Nat.reduceAdd, Nat.reduceMul, Nat.reduceSub, Nat.reduceLeDiff, Nat.reduceLT, Nat.reduceEqDiff, Nat.reduceBEq, Nat.reduceBNe, Int.reduceNeg, Int.reduceToNat, Int.reduceLT, Int.reduceLE, Int.reduceEq, Int.reduceAdd, Int.reduceMul, Int.reduceSub, Nat.reduceSucc, Nat.reduceGT, Nat.reducePow, Int.reducePow, reduceCtorEq, ↓reduceIte]), rfl, rfl⟩
    · rw [ext, if_neg (by omega)]
      have hnx := rnext_c x S l c hS (by omega) ho hbl hp hb
      refine (hnx).use ?_
      simp (disch := omega) only [go_sem, Nat.reduceAdd, Nat.reduceMul, Nat.reduceSub, Nat.reduceLeDiff, Nat.reduceLT, Nat.reduceEqDiff, Nat.reduceBEq, Nat.reduceBNe, Int.reduceNeg, Int.reduceToNat, Int.reduceLT, Int.reduceLE, Int.reduceEq, Int.reduceAdd, Int.reduceMul, Int.reduceSub, Nat.reduceSucc, Nat.reduceGT, Nat.reducePow, Int.reducePow, reduceCtorEq, ↓reduceIte]
      have hnl := nextU_len x S l x.orders.length
      have hgr : ∀ v ∈ nextU x S l x.orders.length, Gr x S (l ++ [v]) := fun v hv => .snoc hg hv
      generalize nextU x S l x.orders.length = nx at hnl hgr hnil ⊢
      refine acond_b (fun h2 => ?_) (fun h2 => ?_) <;> (try simp only [decide_eq_true_eq, decide_eq_false_iff_not] at h2) <;> simp (disch := omega) only [Sh.out h2, go_sem, Nat.reduceAdd, Nat.reduceMul, Nat.reduceSub, Nat.reduceLeDiff, Nat.reduceLT, Nat.reduceEqDiff, Nat.reduceBEq, Nat.reduceBNe, Int.reduceNeg, Int.reduceToNat, Int.reduceLT, Int.reduceLE, Int.reduceEq, Int.reduceAdd, Int.reduceMul, Int.reduceSub, Nat.reduceSucc, Nat.reduceGT, Nat.reducePow, Int.reducePow, reduceCtorEq, ↓reduceIte]
      · exact absurd (List.eq_nil_of_length_eq_zero (by omega)) hnil
      · refine awp_forC [10] [1, 2, 4, 9] (fun k : Nat => [(3, .sl 1 0 ((nx.take k).foldl (fun acc v => ext (fun l => nextU x S l x.orders.length) f (l ++ [v]) acc) outs).length ((nx.take k).foldl (fun acc v => ext (fun l => nextU x S l x.orders.length) f (l ++ [v]) acc) outs).length), (10, .p (.int .i64 k))])
          (fun k => [instO x, .elems 1 (((nx.take k).foldl (fun acc v => ext (fun l => nextU x S l x.orders.length) f (l ++ [v]) acc) outs).map eL), instO x]) (fun k => k ≤ nx.length ∧ ((nx.take k).foldl (fun acc v => ext (fun l => nextU x S l x.orders.length) f (l ++ [v]) acc) outs).length ≤ 8193) (fun k => nx.length - k) 0 ⟨by simp, by simpa using hol⟩ (Weak.mk ?_) ?_
        · simp (disch := omega) only [instO, List.take_zero, List.foldl_nil, go_sem, Nat.reduceAdd, Nat.reduceMul, Nat.reduceSub, Nat.reduceLeDiff, Nat.reduceLT, Nat.reduceEqDiff, Nat.reduceBEq, Nat.reduceBNe, Int.reduceNeg, Int.reduceToNat, Int.reduceLT, Int.reduceLE, Int.reduceEq, Int.reduceAdd, Int.reduceMul, Int.reduceSub, Nat.reduceSucc, Nat.reduceGT, Nat.reducePow, Int.reducePow, reduceCtorEq, ↓reduceIte]
        · rintro k ⟨hk, hl2⟩
          have hsucc : ∀ (hk2 : k < nx.length), (nx.take (k + 1)).foldl (fun acc v => ext (fun l => nextU x S l x.orders.length) f (l ++ [v]) acc) outs = ext (fun l => nextU x S l x.orders.length) f (l ++ [nth nx k]) ((nx.take k).foldl (fun acc v => ext (fun l => nextU x S l x.orders.length) f (l ++ [v]) acc) outs) := fun hk2 => by
            rw [List.take_succ_eq_append_getElem hk2, List.foldl_append, nth_get hk2, List.foldl_cons, List.foldl_nil]
          generalize hacc : (nx.take k).foldl (fun acc v => ext (fun l => nextU x S l x.orders.length) f (l ++ [v]) acc) outs = acc at hl2 hsucc ⊢
          simp (disch := omega) only [instO, go_sem, Nat.reduceAdd, Nat.reduceMul, Nat.reduceSub, Nat.reduceLeDiff, Nat.reduceLT, Nat.reduceEqDiff, Nat.reduceBEq, Nat.reduceBNe, Int.reduceNeg, Int.reduceToNat, Int.reduceLT, Int.reduceLE, Int.reduceEq, Int.reduceAdd, Int.reduceMul, Int.reduceSub, Nat.reduceSucc, Nat.reduceGT, Nat.reducePow, Int.reducePow, reduceCtorEq, ↓reduceIte]
          refine acond_b (fun h3 => ?_) (fun h3 => ?_) <;> (try simp only [decide_eq_true_eq, decide_eq_false_iff_not] at h3) <;> simp (disch := omega) only [Sh.out h3, go_sem, Nat.reduceAdd, Nat.reduceMul, Nat.reduceSub, Nat.reduceLeDiff, Nat.reduceLT, Nat.reduceEqDiff, Nat.reduceBEq, Nat.reduceBNe, Int.reduceNeg, Int.reduceToNat, Int.reduceLT, Int.reduceLE, Int.reduceEq, Int.reduceAdd, Int.reduceMul, Int.reduceSub, Nat.reduceSucc, Nat.reduceGT, Nat.reducePow, Int.reducePow, reduceCtorEq, ↓reduceIte]
          · have hk2 : k < nx.length := by omega
            have hs := hsucc hk2
            refine awp_seq (awp_block (awp_join2 [1, 2, 3, 4, 9, 10] (fun _ : Unit => [(11, .p (.list false ((l ++ [nth nx k]).map eVis)))]) (fun _ => [instO x, .elems 1 (acc.map eL), instO x]) (fun _ => True) ?_ ?_))
            · simp (disch := omega) only [instO, go_sem, Nat.reduceAdd, Nat.reduceMul, Nat.reduceSub, Nat.reduceLeDiff, Nat.reduceLT, Nat.reduceEqDiff, Nat.reduceBEq, Nat.reduceBNe, Int.reduceNeg, Int.reduceToNat, Int.reduceLT, Int.reduceLE, Int.reduceEq, Int.reduceAdd, Int.reduceMul, Int.reduceSub, Nat.reduceSucc, Nat.reduceGT, Nat.reducePow, Int.reducePow, reduceCtorEq, ↓reduceIte]
              exact ⟨(), Weak.mk (by simp (disch := omega) only [instO, List.length_append, List.length_map, List.length_cons, List.length_nil, go_sem, Nat.reduceAdd, Nat.reduceMul, Nat.reduceSub, Nat.reduceLeDiff, Nat.reduceLT, Nat.reduceEqDiff, Nat.reduceBEq, Nat.reduceBNe, Int.reduceNeg, Int.reduceToNat, Int.reduceLT, Int.reduceLE, Int.reduceEq, Int.reduceAdd, Int.reduceMul, Int.reduceSub, Nat.reduceSucc, Nat.reduceGT, Nat.reducePow, Int.reducePow, reduceCtorEq, ↓reduceIte])⟩
            · intro _ _
              refine awp_sound [] _ _ _ _ ?_
              simp (disch := omega) only [instO, go_sem, Nat.reduceAdd, Nat.reduceMul, Nat.reduceSub, Nat.reduceLeDiff, Nat.reduceLT, Nat.reduceEqDiff, Nat.reduceBEq, Nat.reduceBNe, Int.reduceNeg, Int.reduceToNat, Int.reduceLT, Int.reduceLE, Int.reduceEq, Int.reduceAdd, Int.reduceMul, Int.reduceSub, Nat.reduceSucc, Nat.reduceGT, Nat.reducePow, Int.reducePow, reduceCtorEq, ↓reduceIte]
              have ihk := ih (l ++ [nth nx k]) false acc (by simp; omega) (by simp) hl2 (hgr _ (nth_mem hk2))
              rw [List.map_append] at ihk
              refine ihk.useP (L := [instO x]) (by rfl) ?_ (by rfl) (by rfl)
              rw [← hs]
              have hsl := ext_len (nx := fun l => nextU x S l x.orders.length) f (l ++ [nth nx k]) acc hl2
              rw [← hs] at hsl
              simp (disch := omega) only [instO, go_sem, Nat.reduceAdd, Nat.reduceMul, Nat.reduceSub, Nat.reduceLeDiff, Nat.reduceLT, Nat.reduceEqDiff, Nat.reduceBEq, Nat.reduceBNe, Int.reduceNeg, Int.reduceToNat, Int.reduceLT, Int.reduceLE, Int.reduceEq, Int.reduceAdd, Int.reduceMul, Int.reduceSub, Nat.reduceSucc, Nat.reduceGT, Nat.reducePow, Int.reducePow, reduceCtorEq, ↓reduceIte]
              refine awp_sound [] _ _ _ _ ?_
              simp (disch := omega) only [instO, go_sem, Nat.reduceAdd, Nat.reduceMul, Nat.reduceSub, Nat.reduceLeDiff, Nat.reduceLT, Nat.reduceEqDiff, Nat.reduceBEq, Nat.reduceBNe, Int.reduceNeg, Int.reduceToNat, Int.reduceLT, Int.reduceLE, Int.reduceEq, Int.reduceAdd, Int.reduceMul, Int.reduceSub, Nat.reduceSucc, Nat.reduceGT, Nat.reducePow, Int.reducePow, reduceCtorEq, ↓reduceIte]
              exact ⟨k + 1, ⟨by omega, hsl⟩, by omega, Weak.mk (by simp (disch := omega) only [instO, go_sem, Nat.reduceAdd, Nat.reduceMul, Nat.reduceSub, Nat.reduceLeDiff, Nat.reduceLT, Nat.reduceEqDiff, Nat.reduceBEq, Nat.reduceBNe, Int.reduceNeg, Int.reduceToNat, Int.reduceLT, Int.reduceLE, Int.reduceEq, Int.reduceAdd, Int.reduceMul, Int.reduceSub, Nat.reduceSucc, Nat.reduceGT, Nat.reducePow, Int.reducePow, reduceCtorEq, ↓reduceIte])⟩
          · have hkl : k = nx.length := by omega
            subst hkl
            rw [List.take_length] at hacc
            rw [hacc]
            exact ⟨_, _, Weak.mk (by simp (disch := omega) only [instO, go_sem, Nat.reduceAdd, Nat.reduceMul, Nat.reduceSub, Nat.reduceLeDiff, Nat.reduceLT, Nat.reduceEqDiff, Nat.reduceBEq, Nat.reduceBNe, Int.reduceNeg, Int.reduceToNat, Int.reduceLT, Int.reduceLE, Int.reduceEq, Int.reduceAdd, Int.reduceMul, Int.reduceSub, Nat.reduceSucc, Nat.reduceGT, Nat.reducePow, Int.reducePow, reduceCtorEq, ↓reduceIte]), rfl, rfl⟩
end Go.Proofs.Ytlbhefiehkmhjaa.K
