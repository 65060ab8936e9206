/- Declarations that the closing texts need, part 10: joined by tools/slim.py. -/
import Derived.Test.YtccjopdlbolnhaaGreatZ9
set_option linter.unusedVariables false
set_option linter.unusedSimpArgs false
namespace Go.Proofs.YtccjopdlbolnhaaGreat.K
open Go Go.AM Go.Proofs
set_option maxRecDepth 8000
set_option maxHeartbeats 8000000
@[go_sem high] theorem amax_mx {k k' : IntKind} {a b : Int} : amax false [.p (.int k a), .p (.int k' b)] = some (.int k (max a b)) := by
  simp only [amax]
  by_cases h : a < b
  · simp [h]; omega
  · simp [h]; omega
theorem markT_snoc {l : List Tim} {m : Tim} {d : Int} {b : Bool} : markT (l ++ [m]) l.length d b = l ++ [{ m with dep := d, rest := b }] := by
  have : nth (l ++ [m]) l.length = m := by rw [nth_get (by simp)]; simp
  rw [markT, this]
  simp
/-- the step of the reference is that of labels -/
theorem stepF_arr {x : Inst} {t : Typ} {sp : List Stp} {k : Nat} {d s m : Int} {h : She} (hk : k < sp.length) (ho : (nth sp k).opn ≤ (nth sp k).cls) (hm : h.miles = m) :
    (stepF x t ⟨plcF t sp k, d, s, m⟩ (nth sp k).place (nth sp k).cls 14).2 = (arrF t sp k (goL x t sp k d) d s h).2 ∧
    ((arrF t sp k (goL x t sp k d) d s h).2 = 0 → (stepF x t ⟨plcF t sp k, d, s, m⟩ (nth sp k).place (nth sp k).cls 14).1 = ⟨(nth sp k).place, (goL x t sp k d).1, s + (goL x t sp k d).1 - d, m + (goL x t sp k d).2.1⟩ ∧
      (arrF t sp k (goL x t sp k d) d s h).1 = ⟨max (goL x t sp k d).1 (nth sp k).opn + (nth sp k).serv, s + (goL x t sp k d).1 - d, { h with times_c := false, times := h.times ++ [⟨(goL x t sp k d).1, max (goL x t sp k d).1 (nth sp k).opn, 0, false⟩], miles := m + (goL x t sp k d).2.1 }⟩) := by
  have hne : ¬ k = sp.length := by omega
  have e : goN x.net t.prof (plcF t sp k) (nth sp k).place d = goL x t sp k d := by simp [goL, toF, hne]
  unfold stepF arrF
  simp only [e, if_neg hne]
  subst hm
  generalize goL x t sp k d = g
  by_cases c1 : g.2.2 = 0
  · by_cases c2 : (nth sp k).cls < g.1
    · have c3 : (nth sp k).cls < max g.1 (nth sp k).opn := by omega
      simp [c1, c2, c3]
    · have c3 : ¬ (nth sp k).cls < max g.1 (nth sp k).opn := by omega
      by_cases c4 : t.drive < s + g.1 - d
      · simp [c1, c2, c3, c4]
      · simp [c1, c2, c3, c4]
  · simp [c1]
theorem stepF_end {x : Inst} {t : Typ} {sp : List Stp} {d s m : Int} {h : She} (hm : h.miles = m) :
    (stepF x t ⟨plcF t sp sp.length, d, s, m⟩ t.dst t.cls 15).2 = (arrF t sp sp.length (goL x t sp sp.length d) d s h).2 ∧
    ((arrF t sp sp.length (goL x t sp sp.length d) d s h).2 = 0 → (stepF x t ⟨plcF t sp sp.length, d, s, m⟩ t.dst t.cls 15).1 = ⟨t.dst, (goL x t sp sp.length d).1, s + (goL x t sp sp.length d).1 - d, m + (goL x t sp sp.length d).2.1⟩ ∧
      (arrF t sp sp.length (goL x t sp sp.length d) d s h).1 = ⟨(goL x t sp sp.length d).1, s + (goL x t sp sp.length d).1 - d, { h with fin := (goL x t sp sp.length d).1, miles := m + (goL x t sp sp.length d).2.1 }⟩) := by
  have e : goN x.net t.prof (plcF t sp sp.length) t.dst d = goL x t sp sp.length d := by simp [goL, toF]
  unfold stepF arrF
  simp only [e, if_true]
  subst hm
  generalize goL x t sp sp.length d = g
  by_cases c1 : g.2.2 = 0
  · by_cases c2 : t.cls < g.1
    · simp [c1, c2]
    · by_cases c4 : t.drive < s + g.1 - d
      · simp [c1, c2, c4]
      · simp [c1, c2, c4]
  · simp [c1]
def staO (s : StD) : AM.Obj := .cells [.p (.int .i64 s.place), .p (.int .i64 s.time), .p (.int .i64 s.driven), .p (.int .i64 s.miles)]
/-- the state at a departure -/
def depS (t : Typ) (sp : List Stp) (k : Nat) (L : Lab) (b : Bool) : StD := ⟨plcF t sp k, depF t L b, sncF L b, L.she.miles⟩
theorem useTx {g : FuncId} {args : List V} {a c : PV} {H : List AM.Obj} {K : V → List AM.Obj → Prop} (h : ACalls Tryz.prog g args [] fun x H' => ∃ b : PV, x = .tup [.p a, .p b, .p c] ∧ H' = []) (k : ∀ b : PV, K (.tup [.p a, .p b, .p c]) H) (ha : refBs 0 args = true := by rfl) : ACalls Tryz.prog g args H K :=
  (h.behind ha H).mono fun x H' hq => by
    obtain ⟨y, H1, ⟨b, rfl, rfl⟩, rfl, rfl⟩ := hq
    simpa [shV, shVs] using k b
theorem stopsF_len {x : Inst} {l : List Vis} : (stopsF x l).length = l.length := by simp [stopsF]
theorem stopsF_nth {x : Inst} {l : List Vis} {k : Nat} (h : k < l.length) : nth (stopsF x l) k = stopV x (nth l k) := by
  rw [nth_get (by simpa [stopsF] using h), nth_get h]; simp [stopsF]
theorem run18_c (x : Inst) (r : Rte) (rests : List Bool) (c : Bool) (hok : TrpOk x (typR x r) (stopsF x r.visits)) (ho : x.orders.length ≤ 1048576) (ht : x.types.length ≤ 1048576) (hne : 0 < r.visits.length) (hp : possB x r = true) (hl : rests.length = r.visits.length + 1) :
    ACalls Tryz.prog 75 [.p (eInst x), .p (eRte r), .p (.list c (rests.map eB))] [] fun y H' => ∃ d : PV, y = .tup [.p (eShe (runF x (typR x r) (stopsF x r.visits) 0 (labF (typR x r) r.start) rests).1.she), .p d, .p (.int .i64 (runF x (typR x r) (stopsF x r.visits) 0 (labF (typR x r) r.start) rests).2)] ∧ H' = [] := by
  have hp2 := hp
  simp only [possB, Bool.and_eq_true, decide_eq_true_eq] at hp2
  obtain ⟨⟨⟨⟨⟨p1, p2⟩, p3⟩, p4⟩, p5⟩, p6⟩ := hp2
  have hvis : ∀ k, k < r.visits.length → visB x (nth r.visits k) = true := fun k hk => List.all_eq_true.1 p6 _ (nth_mem hk)
  have hstop : ∀ k, k < r.visits.length → stopG x (nth r.visits k) = nth (stopsF x r.visits) k := fun k hk => by
    have := hvis k hk
    simp only [visB, Bool.and_eq_true] at this
    rw [stopG, if_pos this.1, stopsF_nth hk]
  have hti : r.typ.toNat < x.types.length := by omega
  have hopn := hok.opn
  have hrst := hok.rst
  have htd : typR x r = nth x.types r.typ.toNat := rfl
  generalize hT : typR x r = t at *
  have hsl : (stopsF x r.visits).length = r.visits.length := stopsF_len
  generalize hS : stopsF x r.visits = sp at *
  refine acalls_weak [26] (fn := Tryz.f75) Tryz.func75 rfl isF75 ?_
  simp (disch := omega) only [Tryz.f75, go_sem, seval, reduceCtorEq, ↓reduceIte]
  refine (poss18_c x r ho ht (by omega)).use ?_
  simp (disch := omega) only [go_sem, seval, reduceCtorEq, ↓reduceIte]
  rw [hp]
  simp (disch := omega) only [go_sem, seval, reduceCtorEq, ↓reduceIte]
  refine acond_b (fun h0 => ?_) (fun h0 => ?_) <;> (try simp only [decide_eq_true_eq, decide_eq_false_iff_not] at h0) <;> simp (disch := omega) only [Sh.out h0, ← htd, go_sem, seval, reduceCtorEq, ↓reduceIte]
  · omega
  · refine awp_drawnM [13] 14 mixed (by kernel_rfl) (by kernel_rfl) (by kernel_rfl) (by simp) ?_
    simp (disch := omega) only [go_sem, seval, reduceCtorEq, ↓reduceIte]
    refine exq_call (rest18_c t ⟨t.src, max t.opn r.start, 0, 0⟩ (nth rests 0) (by simp only; omega)) ?_
    simp (disch := omega) only [go_sem, seval, reduceCtorEq, ↓reduceIte]
    refine lateR_cons _ _ (by simp (disch := omega) only [go_sem, seval, reduceCtorEq, ↓reduceIte]; exact ⟨rfl, rfl⟩) ?_
    simp (disch := omega) only [go_sem, seval, reduceCtorEq, ↓reduceIte]
    refine awp_drawnM [6] 7 mixed (by kernel_rfl) (by kernel_rfl) (by kernel_rfl) (by simp) ?_
    simp (disch := omega) only [go_sem, seval, reduceCtorEq, ↓reduceIte]
    refine lateR_cons _ _ (by simp (disch := omega) only [go_sem, seval, reduceCtorEq, ↓reduceIte]; exact ⟨rfl, rfl⟩) ?_
    simp (disch := omega) only [go_sem, seval, reduceCtorEq, ↓reduceIte]
    have hL0 : LabR 0 (labF t r.start) := ⟨by simp only [labF]; omega, by simp [labF], by simp [labF, zShe]⟩
    have hS0 : restF t ⟨t.src, max t.opn r.start, 0, 0⟩ (nth rests 0) = depS t sp 0 (labF t r.start) (nth rests 0) := by
      simp only [restF, depS, plcF, depF, sncF, labF, zShe, if_true]
      split <;> rfl
    simp (disch := omega) only [hS0, go_sem, seval, reduceCtorEq, ↓reduceIte]
    refine awp_forC [26] [2, 3, 4, 6, 9, 10, 11] (fun q : Nat × Lab × List Int => [(12, .sl 7 0 q.2.2.length q.2.2.length), (13, .p (.int .i64 q.1))])
      (fun q => [instO x, rteO r, .cells [.p (.bool false), .p (.int .i64 0), .p (.list true []), .p (.int .i64 0), .p (.int .i64 0)], typO t, staO (depS t sp q.1 q.2.1 (nth rests q.1)),
        .cells [.p (.bool (markF q.1 (depF t q.2.1 (nth rests q.1)) (nth rests q.1) q.2.1.she).rest), .p (.int .i64 (markF q.1 (depF t q.2.1 (nth rests q.1)) (nth rests q.1) q.2.1.she).dep), .sl 6 0 (markF q.1 (depF t q.2.1 (nth rests q.1)) (nth rests q.1) q.2.1.she).times.length (markF q.1 (depF t q.2.1 (nth rests q.1)) (nth rests q.1) q.2.1.she).times.length, .p (.int .i64 0), .p (.int .i64 0)],
        .elems 4 ((markF q.1 (depF t q.2.1 (nth rests q.1)) (nth rests q.1) q.2.1.she).times.map eTim), .elems 1 (q.2.2.map eI)])
      (fun q => q.1 ≤ r.visits.length ∧ runF x t sp 0 (labF t r.start) rests = runF x t sp q.1 q.2.1 (rests.drop q.1) ∧ LabR q.1 q.2.1 ∧ q.2.1.she.times.length = q.1 ∧ q.2.1.she.fin = 0 ∧ (0 < q.1 → q.2.1.she.times_c = false) ∧ q.2.2.length = q.1) (fun q => r.visits.length - q.1) (0, labF t r.start, [])
      ⟨by simp, by simp, hL0, by simp [labF, zShe], by simp [labF, zShe], by simp, by simp⟩ ((Weak.nilC (o := 5) (j := 2) 4 rfl rfl (by simp)).trans (Weak.ofNil 12 1 rfl (by simp) (Weak.mk ?_))) ?_
    · simp (disch := omega) only [instO, rteO, typO, staO, depS, plcF, markF, labF, zShe, List.map_nil, List.length_nil, List.set_cons_succ, List.set_cons_zero, List.cons_append, List.nil_append, go_sem, seval, reduceCtorEq, ↓reduceIte]
    · rintro ⟨k, L, ds⟩ ⟨hk, hrun, hL, hlen, hfin, hclip, hds⟩
      simp only at hk hrun hL hlen hfin hclip hds
      have hmlen : (markF k (depF t L (nth rests k)) (nth rests k) L.she).times.length = k := by rw [markF_len]; exact hlen
      have hd := depF_rng hok hL (nth rests k)
      have hs := sncF_rng hL (nth rests k)
      have hg := goL_rng hok hL (nth rests k)
      have hmi := hL.mil
      generalize hm : markF k (depF t L (nth rests k)) (nth rests k) L.she = m at *
      have hmm : m.miles = L.she.miles := by rw [← hm, markF_miles]
      have hmf : m.fin = 0 := by rw [← hm, markF_fin, hfin]
      have hdrop : rests.drop k = nth rests k :: rests.drop (k + 1) := by rw [List.drop_eq_getElem_cons (by omega), nth_get (by omega)]
      have hnx : nxtF x t sp k L (nth rests k) = arrF t sp k (goL x t sp k (depF t L (nth rests k))) (depF t L (nth rests k)) (sncF L (nth rests k)) m := by rw [nxtF, hm]
      rw [hdrop, runF] at hrun
      simp (disch := omega) only [instO, rteO, typO, staO, go_sem, seval, reduceCtorEq, ↓reduceIte]
      refine acond_b (fun h => ?_) (fun h => ?_) <;> (try simp only [decide_eq_true_eq, decide_eq_false_iff_not] at h) <;> simp (disch := omega) only [Sh.out h, go_sem, seval, reduceCtorEq, ↓reduceIte]
      · have hk2 : k < r.visits.length := by omega
        have hsp := hok.stp _ (nth_in (show k < sp.length by omega))
        refine awp_drawnM [10, 11] 12 mixed (by kernel_rfl) (by kernel_rfl) (by kernel_rfl) (by simp) ?_
        simp (disch := omega) only [go_sem, seval, reduceCtorEq, ↓reduceIte]
        refine exq_callT (stop18_c x (nth r.visits k) ho) ?_
        simp (disch := omega) only [go_sem, seval, reduceCtorEq, ↓reduceIte]
        refine lateR_cons _ _ (by simp (disch := omega) only [go_sem, seval, reduceCtorEq, ↓reduceIte]; exact ⟨rfl, rfl⟩) ?_
        simp (disch := omega) only [go_sem, seval, reduceCtorEq, ↓reduceIte]
        refine lateR_cons _ _ (by simp (disch := omega) only [go_sem, seval, reduceCtorEq, ↓reduceIte]; exact ⟨rfl, rfl⟩) ?_
        simp (disch := omega) only [hstop k hk2, go_sem, seval, reduceCtorEq, ↓reduceIte]
        obtain ⟨f1, f2⟩ := stepF_arr (x := x) (t := t) (d := depF t L (nth rests k)) (s := sncF L (nth rests k)) (h := m) (show k < sp.length by omega) hsp.2.1 hmm
        have he2 : goN x.net t.prof (plcF t sp k) (nth sp k).place (depF t L (nth rests k)) = goL x t sp k (depF t L (nth rests k)) := by
          have hne : ¬ k = sp.length := by omega
          simp [goL, toF, hne]
        refine useT' (step18_c x t (depS t sp k L (nth rests k)) (nth sp k).place (nth sp k).cls 14 hok.net ?_ ?_ ?_ ?_) ?_
        · simp only [depS]; omega
        · simp only [depS, Sml]; omega
        · simp only [depS, Sml]; omega
        · simp only [depS, Sml]; rw [he2]; omega
        have f1' : (stepF x t (depS t sp k L (nth rests k)) (nth sp k).place (nth sp k).cls 14).2 = (nxtF x t sp k L (nth rests k)).2 := by rw [hnx, ← f1]; rfl
        simp (disch := omega) only [go_sem, seval, reduceCtorEq, ↓reduceIte]
        rw [f1']
        refine acond_b (fun h3 => ?_) (fun h3 => ?_) <;> (try simp only [decide_eq_true_eq, decide_eq_false_iff_not] at h3) <;> simp (disch := omega) only [Sh.out h3, go_sem, seval, reduceCtorEq, ↓reduceIte]
        · rw [if_neg h3] at hrun
          rw [hrun]
          simp only [zLab, zShe]
          exact ⟨_, _, Weak.mk (by simp (disch := omega) only [List.map_nil, go_sem, seval, reduceCtorEq, ↓reduceIte]), .list true [], rfl, rfl⟩
        · have h3' : (nxtF x t sp k L (nth rests k)).2 = 0 := Classical.not_not.1 h3
          rw [if_pos h3'] at hrun
          have hL' := nxtF_ok hok (by omega) hL h3'
          rw [hnx] at h3'
          obtain ⟨f3, f4⟩ := f2 h3'
          have f3' : (stepF x t (depS t sp k L (nth rests k)) (nth sp k).place (nth sp k).cls 14).1 = ⟨(nth sp k).place, (goL x t sp k (depF t L (nth rests k))).1, sncF L (nth rests k) + (goL x t sp k (depF t L (nth rests k))).1 - depF t L (nth rests k), L.she.miles + (goL x t sp k (depF t L (nth rests k))).2.1⟩ := f3
          have hL2 : (nxtF x t sp k L (nth rests k)).1 = ⟨max (goL x t sp k (depF t L (nth rests k))).1 (nth sp k).opn + (nth sp k).serv, sncF L (nth rests k) + (goL x t sp k (depF t L (nth rests k))).1 - depF t L (nth rests k), { m with times_c := false, times := m.times ++ [⟨(goL x t sp k (depF t L (nth rests k))).1, max (goL x t sp k (depF t L (nth rests k))).1 (nth sp k).opn, 0, false⟩], miles := L.she.miles + (goL x t sp k (depF t L (nth rests k))).2.1 }⟩ := by rw [hnx]; exact f4
          simp (disch := omega) only [f3', go_sem, seval, reduceCtorEq, ↓reduceIte]
          refine awp_drawnM [13] 14 mixed (by kernel_rfl) (by kernel_rfl) (by kernel_rfl) (by simp) ?_
          simp (disch := omega) only [go_sem, seval, reduceCtorEq, ↓reduceIte]
          refine lateR_cons _ _ (by simp (disch := omega) only [go_sem, seval, reduceCtorEq, ↓reduceIte]; exact ⟨rfl, rfl⟩) ?_
          simp (disch := omega) only [go_sem, seval, reduceCtorEq, ↓reduceIte]
          generalize (nxtF x t sp k L (nth rests k)).1 = L2 at *
          have hS1 : restF t ⟨(nth sp k).place, max (goL x t sp k (depF t L (nth rests k))).1 (nth sp k).opn + (nth sp k).serv, sncF L (nth rests k) + (goL x t sp k (depF t L (nth rests k))).1 - depF t L (nth rests k), L.she.miles + (goL x t sp k (depF t L (nth rests k))).2.1⟩ (nth rests (k + 1)) = depS t sp (k + 1) L2 (nth rests (k + 1)) := by
            rw [hL2]
            simp only [restF, depS, plcF, depF, sncF, Nat.add_sub_cancel, if_neg (show ¬ k + 1 = 0 by omega)]
            split <;> rfl
          have hM : markF (k + 1) (depF t L2 (nth rests (k + 1))) (nth rests (k + 1)) L2.she = { m with times_c := false, times := m.times ++ [⟨(goL x t sp k (depF t L (nth rests k))).1, max (goL x t sp k (depF t L (nth rests k))).1 (nth sp k).opn, depF t L2 (nth rests (k + 1)), nth rests (k + 1)⟩], miles := L.she.miles + (goL x t sp k (depF t L (nth rests k))).2.1 } := by
            have he : L2.she = { m with times_c := false, times := m.times ++ [⟨(goL x t sp k (depF t L (nth rests k))).1, max (goL x t sp k (depF t L (nth rests k))).1 (nth sp k).opn, 0, false⟩], miles := L.she.miles + (goL x t sp k (depF t L (nth rests k))).2.1 } := by rw [hL2]
            rw [he, markF, if_neg (by omega), Nat.add_sub_cancel]
            simp only [← hmlen, markT_snoc]
          have hd2 := depF_rng hok hL' (nth rests (k + 1))
          refine awp_drawnS 8 mixed (by kernel_rfl) (by kernel_rfl) ?_
          simp (disch := omega) only [go_sem, seval, reduceCtorEq, ↓reduceIte]
          refine exq_call (rest18_c t ⟨(nth sp k).place, max (goL x t sp k (depF t L (nth rests k))).1 (nth sp k).opn + (nth sp k).serv, sncF L (nth rests k) + (goL x t sp k (depF t L (nth rests k))).1 - depF t L (nth rests k), L.she.miles + (goL x t sp k (depF t L (nth rests k))).2.1⟩ (nth rests (k + 1)) (by simp only; omega)) ?_
          simp (disch := omega) only [go_sem, seval, reduceCtorEq, ↓reduceIte]
          simp (disch := omega) only [hS1, go_sem, seval, reduceCtorEq, ↓reduceIte]
          refine ⟨(k + 1, L2, ds ++ [L2.since]), ⟨by simp only; omega, hrun, hL', by rw [hL2]; simp [hmlen], by rw [hL2]; exact hmf, by rw [hL2]; simp, by simp [hds]⟩, by simp only; omega, Weak.mk ?_⟩
          simp (disch := omega) only [hM, instO, rteO, typO, staO, hmlen, List.length_append, List.length_cons, List.length_nil, List.map_append, List.map_cons, List.map_nil, go_sem, seval, reduceCtorEq, ↓reduceIte]
          exact ⟨rfl, by rw [show L2.since = sncF L (nth rests k) + (goL x t sp k (depF t L (nth rests k))).1 - depF t L (nth rests k) by rw [hL2]]⟩
      · have hkl : k = sp.length := by omega
        subst hkl
        obtain ⟨f1, f2⟩ := stepF_end (x := x) (t := t) (sp := sp) (d := depF t L (nth rests sp.length)) (s := sncF L (nth rests sp.length)) (h := m) hmm
        have he2 : goN x.net t.prof (plcF t sp sp.length) t.dst (depF t L (nth rests sp.length)) = goL x t sp sp.length (depF t L (nth rests sp.length)) := by simp [goL, toF]
        refine useT' (step18_c x t (depS t sp sp.length L (nth rests sp.length)) t.dst t.cls 15 hok.net ?_ ?_ ?_ ?_) ?_
        · simp only [depS]; omega
        · simp only [depS, Sml]; omega
        · simp only [depS, Sml]; omega
        · simp only [depS, Sml]; rw [he2]; omega
        have f1' : (stepF x t (depS t sp sp.length L (nth rests sp.length)) t.dst t.cls 15).2 = (nxtF x t sp sp.length L (nth rests sp.length)).2 := by rw [hnx, ← f1]; rfl
        simp (disch := omega) only [go_sem, seval, reduceCtorEq, ↓reduceIte]
        rw [f1']
        have hdl : rests.drop (sp.length + 1) = [] := List.drop_eq_nil_of_le (by omega)
        rw [hdl, runF] at hrun
        refine acond_b (fun h3 => ?_) (fun h3 => ?_) <;> (try simp only [decide_eq_true_eq, decide_eq_false_iff_not] at h3) <;> simp (disch := omega) only [Sh.out h3, go_sem, seval, reduceCtorEq, ↓reduceIte]
        · rw [if_neg h3] at hrun
          rw [hrun]
          simp only [zLab, zShe]
          exact ⟨_, _, Weak.mk (by simp (disch := omega) only [List.map_nil, go_sem, seval, reduceCtorEq, ↓reduceIte]), .list true [], rfl, rfl⟩
        · have h3' : (nxtF x t sp sp.length L (nth rests sp.length)).2 = 0 := Classical.not_not.1 h3
          rw [if_pos h3'] at hrun
          rw [hnx] at h3'
          obtain ⟨f3, f4⟩ := f2 h3'
          have f3' : (stepF x t (depS t sp sp.length L (nth rests sp.length)) t.dst t.cls 15).1 = ⟨t.dst, (goL x t sp sp.length (depF t L (nth rests sp.length))).1, sncF L (nth rests sp.length) + (goL x t sp sp.length (depF t L (nth rests sp.length))).1 - depF t L (nth rests sp.length), L.she.miles + (goL x t sp sp.length (depF t L (nth rests sp.length))).2.1⟩ := f3
          rw [hrun, hnx, f4]
          simp (disch := omega) only [f3', go_sem, seval, reduceCtorEq, ↓reduceIte]
          refine awp_weak (Weak.fz (o := 6) (by rfl)) ?_
          refine awp_weak (Weak.fz (o := 7) (by rfl)) ?_
          refine awp_sound [] _ _ _ _ ?_
          simp (disch := omega) only [List.map_cons, List.map_nil, List.set_cons_succ, List.set_cons_zero, go_sem, seval, reduceCtorEq, ↓reduceIte]
          have hmc : m.times_c = false := by
            rw [← hm, ← hclip (by omega)]
            unfold markF
            split <;> rfl
          exact ⟨_, _, Weak.mk (by simp (disch := omega) only [hmc, go_sem, seval, reduceCtorEq, ↓reduceIte]), .list false (ds.map eI ++ [.int .i64 (sncF L (nth rests sp.length) + (goL x t sp sp.length (depF t L (nth rests sp.length))).1 - depF t L (nth rests sp.length))]), rfl, rfl⟩
theorem Run18_c (x : Inst) (r : Rte) (rests : List Bool) (c : Bool) (hok : TrpOk x (typR x r) (stopsF x r.visits)) (ho : x.orders.length ≤ 1048576) (ht : x.types.length ≤ 1048576) (hne : 0 < r.visits.length) (hp : possB x r = true) (hl : rests.length = r.visits.length + 1) :
    ACalls Tryz.prog 53 [.p (eInst x), .p (eRte r), .p (.list c (rests.map eB))] [] fun y H' => y = .tup [.p (eShe (runF x (typR x r) (stopsF x r.visits) 0 (labF (typR x r) r.start) rests).1.she), .p (.int .i64 (runF x (typR x r) (stopsF x r.visits) 0 (labF (typR x r) r.start) rests).2)] ∧ H' = [] := by
  have cr := run18_c x r rests c hok ho ht hne hp hl
  generalize (runF x (typR x r) (stopsF x r.visits) 0 (labF (typR x r) r.start) rests) = q at cr ⊢
  obtain ⟨L, e⟩ := q
  refine acalls_weak [] (fn := Tryz.f53) Tryz.func53 rfl isF53 ?_
  simp (disch := omega) only [Tryz.f53, go_sem, seval, reduceCtorEq, ↓reduceIte]
  refine useTx cr fun d => ?_
  simp (disch := omega) only [go_sem, seval, reduceCtorEq, ↓reduceIte]
  exact ⟨_, _, Weak.mk (by simp (disch := omega) only [go_sem, seval, reduceCtorEq, ↓reduceIte]), rfl, rfl⟩
end Go.Proofs.YtccjopdlbolnhaaGreat.K
set_option linter.unusedVariables false
set_option linter.unusedSimpArgs false
namespace Go.Proofs.YtccjopdlbolnhaaGreat.K
open Go Go.AM Go.Proofs
set_option maxRecDepth 8000
set_option maxHeartbeats 8000000
def nextR (l : List Bool) (n : Nat) : Option (List Bool) := (nextB (l.drop n)).map (l.take n ++ ·)
def optL : Option (List Bool) → PV
  | some l => .list false (l.map eB)
  | none => .list true []
theorem nextB_trues : ∀ m : Nat, nextB (List.replicate m true) = none
  | 0 => rfl
  | m + 1 => by rw [List.replicate_succ, nextB, nextB_trues m]; rfl
theorem nextB_app : ∀ (a b r : List Bool), nextB b = some r → nextB (a ++ b) = some (a ++ r)
  | [], b, r, h => h
  | x :: a, b, r, h => by rw [List.cons_append, nextB, nextB_app a b r h]; rfl
theorem nextB_at (a : List Bool) (m : Nat) : nextB (a ++ false :: List.replicate m true) = some (a ++ true :: List.replicate m false) := by
  refine nextB_app _ _ _ ?_
  rw [nextB, nextB_trues]
  simp
theorem setB_map {o : List Bool} {i : Nat} {b : Bool} : (o.map eB).set i (.bool b) = (o.set i b).map eB := by rw [List.map_set]; rfl
theorem next18_c (l : List Bool) (c : Bool) (n : Nat) (hn : n ≤ l.length) (h0 : 0 < l.length) (hl : l.length ≤ 1048576) : ACalls Tryz.prog 54 [.p (.list c (l.map eB)), .p (.int .i64 (n : Nat))] [] fun y H' => y = .tup [.p (optL (nextR l n)), .p (.bool (nextR l n).isSome)] ∧ H' = [] := by
  refine acalls_weak [8] (fn := Tryz.f54) Tryz.func54 rfl isF54 ?_
  simp (disch := omega) only [Tryz.f54, go_sem, seval, reduceCtorEq, ↓reduceIte]
  rw [if_pos ⟨by omega, by omega⟩]
  simp (disch := omega) only [go_sem, seval, reduceCtorEq, ↓reduceIte]
  refine awp_forC [8] [1] (fun q : Nat × List Bool => [(6, .sl 0 0 q.2.length q.2.length), (7, .p (.int .i64 ((q.1 : Int) - 1)))]) (fun q => [.elems 1 (q.2.map eB)]) (fun q => n ≤ q.1 ∧ q.1 ≤ l.length ∧ q.2 = l.take q.1 ++ List.replicate (l.length - q.1) false ∧ l.drop q.1 = List.replicate (l.length - q.1) true) (fun q => q.1) (l.length, l) (by simp; omega) (Weak.mk ?_) ?_
  · simp (disch := omega) only [go_sem, seval, reduceCtorEq, ↓reduceIte]
  · rintro ⟨j, o⟩ ⟨hj1, hj2, ho, hjt⟩
    simp only at hj1 hj2 ho hjt
    have hol : o.length = l.length := by rw [ho]; simp; omega
    simp (disch := omega) only [go_sem, seval, reduceCtorEq, ↓reduceIte]
    refine acond_b (fun h => ?_) (fun h => ?_) <;> (try simp only [decide_eq_true_eq, decide_eq_false_iff_not] at h) <;> simp (disch := omega) only [Sh.out h, go_sem, seval, reduceCtorEq, ↓reduceIte]
    · obtain ⟨i, rfl⟩ : ∃ i, j = i + 1 := ⟨j - 1, by omega⟩
      have hij : (((i + 1 : Nat) : Int) - 1) = (i : Int) := by omega
      have hat : nth o i = nth l i := by
        rw [nth_get (by omega), nth_get (by omega)]
        simp only [ho]
        rw [List.getElem_append_left (by simp; omega)]; simp
      have hdr : l.drop i = nth l i :: List.replicate (l.length - (i + 1)) true := by
        rw [List.drop_eq_getElem_cons (by omega), hjt, nth_get (by omega)]
      have hio : i < o.length := by omega
      simp (disch := first | omega | (simp only [List.length_cons, List.length_nil, List.length_append, List.length_map, List.length_take, List.length_drop] <;> omega)) only [Int.add_sub_cancel, elt_map, hat, hio, go_sem, seval, reduceCtorEq, ↓reduceIte]
      refine acond_b (fun h2 => ?_) (fun h2 => ?_) <;> (try simp only [decide_eq_true_eq, decide_eq_false_iff_not] at h2) <;> simp (disch := omega) only [Sh.out h2, go_sem, seval, reduceCtorEq, ↓reduceIte]
      · have hf : nth l i = false := by simpa using h2
        have hres : nextR l n = some (o.set i true) := by
          rw [hf] at hdr
          have e : l.drop n = (l.drop n).take (i - n) ++ false :: List.replicate (l.length - (i + 1)) true := by
            rw [← hdr, show l.drop i = (l.drop n).drop (i - n) by rw [List.drop_drop]; congr 1; omega, List.take_append_drop]
          rw [nextR, e, nextB_at, ho]
          simp only [Option.map_some, Option.some.injEq]
          have e2 : l.take (i + 1) = l.take n ++ (l.drop n).take (i - n) ++ [nth l i] := by
            rw [List.take_succ_eq_append_getElem (by omega), nth_get (by omega)]
            congr 1
            have : l.take i = l.take (n + (i - n)) := by congr 1; omega
            rw [this, List.take_add]
          rw [e2, hf]
          have el : (l.take n ++ (l.drop n).take (i - n)).length = i := by simp; omega
          rw [List.append_assoc (l.take n ++ (l.drop n).take (i - n)), List.set_append_right _ _ (by omega), el]
          simp
        rw [hres]
        simp (disch := first | omega | (simp only [List.length_cons, List.length_nil, List.length_append, List.length_map, List.length_take, List.length_drop] <;> omega)) only [hio, setB_map, go_sem, seval, reduceCtorEq, ↓reduceIte]
        refine awp_weak (Weak.fz (o := 0) (by rfl)) ?_
        refine awp_sound [] _ _ _ _ ?_
        simp (disch := omega) only [List.map_cons, List.map_nil, List.set_cons_succ, List.set_cons_zero, go_sem, seval, reduceCtorEq, ↓reduceIte]
        simp only [List.length_set, List.length_map, if_true]
        exact ⟨_, _, Weak.mk (by simp (disch := omega) only [optL, Option.isSome_some, go_sem, seval, reduceCtorEq, ↓reduceIte]), rfl, rfl⟩
      · have hf : nth l i = true := by simpa using h2
        simp (disch := first | omega | (simp only [List.length_cons, List.length_nil, List.length_append, List.length_map, List.length_take, List.length_drop] <;> omega)) only [hio, setB_map, go_sem, seval, reduceCtorEq, ↓reduceIte]
        refine ⟨(i, o.set i false), ⟨by simp only; omega, by simp only; omega, ?_, ?_⟩, by simp only; omega, Weak.mk (by simp (disch := first | omega | (simp only [List.length_cons, List.length_nil, List.length_append, List.length_map, List.length_take, List.length_drop] <;> omega)) only [List.length_set, Int.add_sub_cancel, go_sem, seval, reduceCtorEq, ↓reduceIte])⟩
        · simp only
          rw [ho, show l.length - i = (l.length - (i + 1)) + 1 by omega, List.replicate_succ, List.take_succ_eq_append_getElem (by omega), List.append_assoc, List.set_append_right _ _ (by simp; omega), show i - (l.take i).length = 0 by simp; omega]
          simp
        · simp only
          rw [hdr, hf, show l.length - i = (l.length - (i + 1)) + 1 by omega, List.replicate_succ]
    · have hjn : j = n := by omega
      have hres : nextR l n = none := by rw [nextR, ← hjn, hjt, nextB_trues]; rfl
      rw [hres]
      exact ⟨_, _, Weak.mk (by simp (disch := omega) only [optL, Option.isSome_none, go_sem, seval, reduceCtorEq, ↓reduceIte]), rfl, rfl⟩
theorem nextR_app {r q : List Bool} : nextR (r ++ q) r.length = (nextB q).map (r ++ ·) := by simp [nextR]
theorem optL_some {l : List Bool} : optL (some l) = .list false (l.map eB) := rfl
theorem optL_none : optL none = .list true [] := rfl
def sheB (b : Option Lab) : She := match b with | some L => L.she | none => zShe
def remR (r : List Bool) (cur : Option (List Bool)) : List (List Bool) := match cur with | some q => (fromB q).map (r ++ ·) | none => []
theorem remR_next {r s : List Bool} : remR r (some s) = (r ++ s) :: remR r (nextB s) := by
  unfold remR
  simp only
  rw [fromB_next s, List.map_cons]
  cases nextB s <;> rfl
theorem runF_err {x : Inst} {t : Typ} {sp : List Stp} : ∀ (bs : List Bool) (k : Nat) (L : Lab), ¬ (runF x t sp k L bs).2 = 0 → (runF x t sp k L bs).1 = zLab
  | [], k, L, h => by simp [runF] at h
  | b :: bs, k, L, h => by
    rw [runF] at h ⊢
    split
    · rename_i c; rw [if_pos c] at h; exact runF_err bs _ _ h
    · rfl
theorem best18_c (x : Inst) (r : Rte) (hok : TrpOk x (typR x r) (stopsF x r.visits)) (ho : x.orders.length ≤ 1048576) (ht : x.types.length ≤ 1048576) (hne : 0 < r.visits.length) (hp : possB x r = true) (hl : r.rests.length ≤ r.visits.length + 1) :
    ACalls Tryz.prog 29 [.p (eInst x), .p (eRte r)] [] fun y H' => y = .tup [.p (eShe (bestR x r).1), .p (.int .i64 (bestR x r).2)] ∧ H' = [] := by
  have hsl : (stopsF x r.visits).length = r.visits.length := stopsF_len
  have hp2 := hp
  simp only [possB, Bool.and_eq_true, decide_eq_true_eq] at hp2
  have hv20 := hp2.1.2
  have hrun := fun rests (c : Bool) (h : rests.length = r.visits.length + 1) => Run18_c x r rests c hok ho ht hne hp h
  have hopt := fun bs => runF_opt (x := x) (t := typR x r) (sp := stopsF x r.visits) bs 0 (labF (typR x r) r.start)
  unfold bestR bestF
  generalize hS : stopsF x r.visits = sp at *
  generalize typR x r = t at *
  generalize labF t r.start = L0 at *
  refine acalls_weak [5, 6] (fn := Tryz.f29) Tryz.func29 rfl isF29 ?_
  simp (disch := omega) only [Tryz.f29, go_sem, seval, reduceCtorEq, ↓reduceIte]
  refine (poss18_c x r ho ht (by omega)).use ?_
  simp (disch := omega) only [go_sem, seval, reduceCtorEq, ↓reduceIte]
  rw [hp]
  simp (disch := omega) only [go_sem, seval, reduceCtorEq, ↓reduceIte]
  refine acond_b (fun h0 => ?_) (fun h0 => ?_) <;> (try simp only [decide_eq_true_eq, decide_eq_false_iff_not] at h0) <;> simp (disch := omega) only [Sh.out h0, go_sem, seval, reduceCtorEq, ↓reduceIte]
  · omega
  · refine awp_seq (awp_opS 3 rfl rfl ?_)
    simp (disch := omega) only [go_sem, seval, reduceCtorEq, ↓reduceIte]
    refine ⟨_, _, ops_copy (e := 4) rfl Tryz.underlying32 (by kernel_rfl) rfl rfl rfl ?_ ?_ ?_, ?_⟩
    · simp
    · simp; omega
    · intro q hq
      obtain ⟨b, _, rfl⟩ := List.mem_map.1 hq
      rfl
    · have hpl : (padR r.rests (sp.length + 1)).length = r.visits.length + 1 := by simp [padR]; omega
      have hpad : r.rests.map eB ++ (PV.bool false :: List.replicate r.visits.length (PV.bool false)).drop (r.rests.map eB).length = (padR r.rests (sp.length + 1)).map eB := by
        rw [padR, List.map_append, ← List.replicate_succ, List.drop_replicate, List.map_replicate, hsl, List.length_map]; rfl
      simp only [List.set_cons_succ, List.set_cons_zero]
      rw [hpad]
      have h0r := hopt (padR r.rests (sp.length + 1))
      have cn : ∀ s : List Bool, (r.rests ++ s).length = r.visits.length + 1 → ACalls Tryz.prog 54 [.p (.list false ((r.rests ++ s).map eB)), .p (.int .i64 (r.rests.length : Nat))] [] fun y H' => y = .tup [.p (optL ((nextB s).map (r.rests ++ ·))), .p (.bool ((nextB s).map (r.rests ++ ·)).isSome)] ∧ H' = [] := fun s hs => by
        have := next18_c (r.rests ++ s) false r.rests.length (by simp) (by omega) (by omega)
        rwa [nextR_app] at this
      have e1 : (runF x t sp 0 L0 (padR r.rests (sp.length + 1))).1.she = sheB (runO (nxtO x t sp) 0 L0 (padR r.rests (sp.length + 1))) := by
        rw [h0r]
        split
        · rfl
        · rename_i c; rw [runF_err _ _ _ c]; rfl
      have e2 : decide ((runF x t sp 0 L0 (padR r.rests (sp.length + 1))).2 = 0) = (runO (nxtO x t sp) 0 L0 (padR r.rests (sp.length + 1))).isSome := by
        rw [h0r]
        split
        · rename_i c; simp [c]
        · rename_i c; simp [c]
      have hrp := hrun (padR r.rests (sp.length + 1)) false hpl
      have hall : restsR r.rests (sp.length + 1) = remR r.rests (some (List.replicate (sp.length + 1 - r.rests.length) false)) := rfl
      refine awp_weak (Weak.fz (o := 3) (by rfl)) ?_
      refine awp_sound [] _ _ _ _ ?_
      simp (disch := omega) only [List.map_cons, List.map_nil, List.set_cons_succ, List.set_cons_zero, go_sem, seval, reduceCtorEq, ↓reduceIte]
      rw [if_pos hpl]
      refine useT' hrp ?_
      simp (disch := omega) only [go_sem, seval, reduceCtorEq, ↓reduceIte]
      refine useT' (cn (List.replicate (sp.length + 1 - r.rests.length) false) hpl) ?_
      simp (disch := omega) only [e1, e2, go_sem, seval, reduceCtorEq, ↓reduceIte]
      have hfm : fmL finF none ((restsR r.rests (sp.length + 1)).filterMap (runO (nxtO x t sp) 0 L0)) = fmL finF (runO (nxtO x t sp) 0 L0 (padR r.rests (sp.length + 1))) ((remR r.rests (nextB (List.replicate (sp.length + 1 - r.rests.length) false))).filterMap (runO (nxtO x t sp) 0 L0)) := by
        rw [hall, remR_next, List.filterMap_cons]
        rw [show r.rests ++ List.replicate (sp.length + 1 - r.rests.length) false = padR r.rests (sp.length + 1) from rfl]
        cases runO (nxtO x t sp) 0 L0 (padR r.rests (sp.length + 1)) with
        | none => rfl
        | some L => rfl
      clear hall
      generalize fmL finF none ((restsR r.rests (sp.length + 1)).filterMap (runO (nxtO x t sp) 0 L0)) = res at hfm ⊢
      generalize (runF x t sp 0 L0 (padR r.rests (sp.length + 1))).2 = err0
      refine awp_for [2, 3, 4, 8, 9] (fun q : Option (List Bool) × Option Lab => [(7, .p (optL (q.1.map (r.rests ++ ·)))), (10, .p (.bool q.2.isSome)), (11, .p (.bool (q.1.map (r.rests ++ ·)).isSome))])
        (fun q => [instO x, rteO r, .cells [.p (.bool false), .p (.int .i64 0), .p (.list true []), .p (.int .i64 0), .p (.int .i64 0)], .dead, .cells [.p (.bool (sheB q.2).rest), .p (.int .i64 (sheB q.2).dep), .p (.list (sheB q.2).times_c ((sheB q.2).times.map eTim)), .p (.int .i64 (sheB q.2).fin), .p (.int .i64 (sheB q.2).miles)]])
        (fun q => res = fmL finF q.2 ((remR r.rests q.1).filterMap (runO (nxtO x t sp) 0 L0)) ∧ ∀ s, q.1 = some s → s.length = sp.length + 1 - r.rests.length) (fun q => (remR r.rests q.1).length)
        (nextB (List.replicate (sp.length + 1 - r.rests.length) false), runO (nxtO x t sp) 0 L0 (padR r.rests (sp.length + 1))) ⟨hfm, fun s hs => by have := fromB_next.nlen _ _ hs; simpa using this⟩ (Weak.mk ?_) ?_
      · simp (disch := omega) only [instO, rteO, go_sem, seval, reduceCtorEq, ↓reduceIte]
      · rintro ⟨cur, b⟩ ⟨hR, hcl⟩
        simp only at hR hcl
        cases cur with
        | none =>
          simp only [remR, List.filterMap_nil] at hR
          simp (disch := omega) only [Option.map_none, Option.isSome_none, optL_none, instO, rteO, go_sem, seval, reduceCtorEq, ↓reduceIte]
          cases b with
          | none =>
            rw [fmL] at hR
            subst hR
            simp (disch := omega) only [Option.isSome_none, Bool.not_false, go_sem, seval, reduceCtorEq, ↓reduceIte]
            exact ⟨_, _, Weak.mk (by simp (disch := omega) only [zShe, List.map_nil, go_sem, seval, reduceCtorEq, ↓reduceIte]), rfl, rfl⟩
          | some m =>
            rw [fmL] at hR
            subst hR
            simp (disch := omega) only [Option.isSome_some, Bool.not_true, sheB, go_sem, seval, reduceCtorEq, ↓reduceIte]
            exact ⟨_, _, Weak.mk (by simp (disch := omega) only [go_sem, seval, reduceCtorEq, ↓reduceIte]), rfl, rfl⟩
        | some s =>
          have hsl2 := hcl s rfl
          rw [remR_next, List.filterMap_cons, hopt] at hR
          have hmu : (remR r.rests (nextB s)).length < (remR r.rests (some s)).length := by rw [remR_next]; simp
          have hnl : ∀ s', nextB s = some s' → s'.length = sp.length + 1 - r.rests.length := fun s' hs' => by rw [fromB_next.nlen _ _ hs', hsl2]
          have hlen : (r.rests ++ s).length = r.visits.length + 1 := by simp; omega
          have hr1 := hrun (r.rests ++ s) false hlen
          have cn1 := cn s hlen
          rw [List.map_append] at hr1 cn1
          simp (disch := omega) only [Option.map_some, Option.isSome_some, optL_some, instO, rteO, go_sem, seval, reduceCtorEq, ↓reduceIte]
          generalize runF x t sp 0 L0 (r.rests ++ s) = g at hR hr1
          obtain ⟨Lg, eg⟩ := g
          simp only at hR hr1
          refine useT' hr1 ?_
          simp (disch := omega) only [go_sem, seval, reduceCtorEq, ↓reduceIte]
          refine aguard_t (fun h1 => ?_) (fun h1 => ?_) <;> (try simp only [decide_eq_true_eq, decide_eq_false_iff_not] at h1) <;> simp (disch := omega) only [Sh.out h1, go_sem, seval, reduceCtorEq, ↓reduceIte]
          · subst h1
            cases b with
            | none =>
              simp (disch := omega) only [Option.isSome_none, Bool.not_false, go_sem, seval, reduceCtorEq, ↓reduceIte]
              refine useT' cn1 ?_
              simp (disch := omega) only [go_sem, seval, reduceCtorEq, ↓reduceIte]
              exact ⟨(nextB s, some Lg), ⟨hR, hnl⟩, hmu, Weak.mk (by simp (disch := omega) only [instO, rteO, sheB, Option.isSome_some, go_sem, seval, reduceCtorEq, ↓reduceIte])⟩
            | some m =>
              simp (disch := omega) only [Option.isSome_some, Bool.not_true, sheB, go_sem, seval, reduceCtorEq, ↓reduceIte]
              refine acond_b (fun h2 => ?_) (fun h2 => ?_) <;> (try simp only [decide_eq_true_eq, decide_eq_false_iff_not] at h2) <;> simp (disch := omega) only [Sh.out h2, go_sem, seval, reduceCtorEq, ↓reduceIte]
              · refine useT' cn1 ?_
                simp (disch := omega) only [go_sem, seval, reduceCtorEq, ↓reduceIte]
                exact ⟨(nextB s, some Lg), ⟨by rw [hR]; simp only [if_true, fmL, finF, h2], hnl⟩, hmu, Weak.mk (by simp (disch := omega) only [instO, rteO, sheB, Option.isSome_some, go_sem, seval, reduceCtorEq, ↓reduceIte])⟩
              · refine useT' cn1 ?_
                simp (disch := omega) only [go_sem, seval, reduceCtorEq, ↓reduceIte]
                exact ⟨(nextB s, some m), ⟨by rw [hR]; simp only [if_true, fmL, finF, h2, if_false], hnl⟩, hmu, Weak.mk (by simp (disch := omega) only [instO, rteO, sheB, Option.isSome_some, go_sem, seval, reduceCtorEq, ↓reduceIte])⟩
          · rw [if_neg h1] at hR
            refine useT' cn1 ?_
            simp (disch := omega) only [go_sem, seval, reduceCtorEq, ↓reduceIte]
            exact ⟨(nextB s, b), ⟨hR, hnl⟩, hmu, Weak.mk (by simp (disch := omega) only [instO, rteO, go_sem, seval, reduceCtorEq, ↓reduceIte])⟩
end Go.Proofs.YtccjopdlbolnhaaGreat.K
set_option linter.unusedVariables false
set_option linter.unusedSimpArgs false
namespace Go.Proofs.YtccjopdlbolnhaaGreat.K
open Go Go.AM Go.Proofs
set_option maxRecDepth 8000
set_option maxHeartbeats 8000000
/-- a row of numbers in a row -/
def eR (p : Bool × List Int) : PV := .list p.1 (p.2.map eI)
@[go_sem] theorem eR_eq (p : Bool × List Int) : eR p = .list p.1 (p.2.map eI) := Eq.trans rfl rfl
@[go_sem] theorem okE_eR (l : List (Bool × List Int)) : okE 1 (l.map eR) = true := okE_map fun _ => rfl
@[go_sem] theorem allS_eR (l : List (Bool × List Int)) : allS 1 (l.map eR) = true := allS_map (f := eR) (S := 1) (fun _ => rfl) l
theorem even06_c (L : List (Bool × List Int)) (c : Bool) (d : Nat) (hd : d ≤ 3) (hL : L.length ≤ 1048576) (h : ∀ p ∈ L, p.2.length = d) : ACalls Tryz.prog 98 [.p (.list c (L.map eR)), .p (.int .i64 (d : Nat))] [] fun x H' => x = .p (.bool true) ∧ H' = [] := by
  refine acalls_pure (fn := Tryz.f98) Tryz.func98 rfl isF98 ?_
  have e1 : ¬ (d : Int) < 0 := by omega
  have e2 : ¬ (3 : Int) < d := by omega
  simp (disch := omega) only [Tryz.f98, e1, e2, go_sem, seval, reduceCtorEq, ↓reduceIte]
  refine awp_for [0, 1] (fun k : Nat => [(5, .p (.int .i64 k))]) (fun _ => []) (fun k => k ≤ L.length) (fun k => L.length - k) 0 (by simp) (Weak.mk ?_) ?_
  · simp (disch := omega) only [go_sem, seval, reduceCtorEq, ↓reduceIte]
  · intro k hk
    simp (disch := omega) only [go_sem, seval, reduceCtorEq, ↓reduceIte]
    refine acond_b (fun h1 => ?_) (fun h1 => ?_) <;> (try simp only [decide_eq_true_eq, decide_eq_false_iff_not] at h1) <;> simp (disch := omega) only [Sh.out h1, go_sem, seval, reduceCtorEq, ↓reduceIte]
    · have hk2 : k < L.length := by omega
      have hp := h _ (nth_mem hk2)
      simp (disch := omega) only [hp, go_sem, seval, reduceCtorEq, ↓reduceIte]
      exact ⟨k + 1, by omega, by omega, Weak.mk (by simp (disch := omega) only [go_sem, seval, reduceCtorEq, ↓reduceIte])⟩
def colS (L : List (Bool × List Int)) (k j : Nat) : Int := ((L.take k).map fun p => nth p.2 j).sum
theorem colS_succ {L : List (Bool × List Int)} {k j : Nat} (h : k < L.length) : colS L (k + 1) j = colS L k j + nth (nth L k).2 j := by
  rw [colS, colS, List.take_succ_eq_append_getElem h, List.map_append, List.sum_append, nth_get h]; simp
theorem colS_rng {L : List (Bool × List Int)} {d j : Nat} (h : ∀ p ∈ L, p.2.length = d ∧ ∀ n ∈ p.2, 0 ≤ n ∧ n ≤ 1000) (hj : j < d) : ∀ k, k ≤ L.length → 0 ≤ colS L k j ∧ colS L k j ≤ 1000 * (k : Int)
  | 0, _ => by simp [colS]
  | k + 1, hk => by
    have ih := colS_rng h hj k (by omega)
    obtain ⟨h1, h2⟩ := h _ (nth_mem (show k < L.length by omega))
    have := h2 _ (nth_mem (show j < (nth L k).2.length by omega))
    rw [colS_succ (by omega)]
    omega
def sumL (L : List (Bool × List Int)) (d : Nat) : List Int := (List.range d).map fun j => colS L L.length j
theorem sum06_c (L : List (Bool × List Int)) (c : Bool) (d : Nat) (hd : 1 ≤ d ∧ d ≤ 3) (hL : L.length ≤ 1048576) (h : ∀ p ∈ L, p.2.length = d ∧ ∀ n ∈ p.2, 0 ≤ n ∧ n ≤ 1000) :
    ACalls Tryz.prog 89 [.p (.list c (L.map eR)), .p (.int .i64 (d : Nat))] [] fun x H' => x = .tup [.p (.list false ((sumL L d).map eI)), .p (.int .i64 0)] ∧ H' = [] := by
  refine acalls_weak [13] (fn := Tryz.f89) Tryz.func89 rfl isF89 ?_
  simp (disch := omega) only [Tryz.f89, go_sem, seval, reduceCtorEq, ↓reduceIte]
  refine (even06_c L c d hd.2 hL fun p hp => (h p hp).1).use ?_
  simp (disch := omega) only [go_sem, seval, reduceCtorEq, ↓reduceIte]
  refine awp_forC [13] [0, 1] (fun q : Nat × List Int => [(6, .sl 0 0 q.2.length q.2.length), (7, .p (.int .i64 q.1))]) (fun q => [.elems 1 (q.2.map eI)]) (fun q => q.1 ≤ d ∧ q.2 = (List.range q.1).map fun j => colS L L.length j) (fun q => d - q.1) (0, []) (by simp) (Weak.ofNil 6 1 rfl (by simp) (Weak.mk ?_)) ?_
  · simp (disch := omega) only [List.map_nil, List.length_nil, go_sem, seval, reduceCtorEq, ↓reduceIte]
  · rintro ⟨j, o⟩ ⟨hj, ho⟩
    simp only at hj ho
    have hol : o.length = j := by rw [ho]; simp
    simp (disch := omega) only [go_sem, seval, reduceCtorEq, ↓reduceIte]
    refine acond_b (fun h1 => ?_) (fun h1 => ?_) <;> (try simp only [decide_eq_true_eq, decide_eq_false_iff_not] at h1) <;> simp (disch := omega) only [Sh.out h1, go_sem, seval, reduceCtorEq, ↓reduceIte]
    · have hj2 : j < d := by omega
      refine awp_for [0, 1, 6, 7] (fun k : Nat => [(8, .p (.int .i64 (colS L k j))), (9, .p (.int .i64 k))]) (fun _ => [.elems 1 (o.map eI)]) (fun k => k ≤ L.length) (fun k => L.length - k) 0 (by simp) (Weak.mk ?_) ?_
      · simp (disch := omega) only [colS, List.take_zero, List.map_nil, List.sum_nil, go_sem, seval, reduceCtorEq, ↓reduceIte]
      · intro k hk
        simp (disch := omega) only [go_sem, seval, reduceCtorEq, ↓reduceIte]
        refine acond_b (fun h2 => ?_) (fun h2 => ?_) <;> (try simp only [decide_eq_true_eq, decide_eq_false_iff_not] at h2) <;> simp (disch := omega) only [Sh.out h2, go_sem, seval, reduceCtorEq, ↓reduceIte]
        · have hk2 : k < L.length := by omega
          obtain ⟨g1, g2⟩ := h _ (nth_mem hk2)
          have g3 := g2 _ (nth_mem (show j < (nth L k).2.length by omega))
          have g4 := colS_rng h hj2 k hk
          have g5 := colS_succ (j := j) hk2
          have g6 : j < (nth L k).2.length := by omega
          simp (disch := omega) only [go_sem, seval, reduceCtorEq, ↓reduceIte]
          exact ⟨k + 1, by omega, by omega, Weak.mk (by simp (disch := omega) only [g5, go_sem, seval, reduceCtorEq, ↓reduceIte])⟩
        · have hkl : k = L.length := by omega
          subst hkl
          refine ⟨(j + 1, o ++ [colS L L.length j]), ⟨by simp only; omega, by simp only; rw [ho, List.range_succ, List.map_append]; rfl⟩, by simp only; omega, Weak.mk (by simp (disch := omega) only [List.length_append, List.length_cons, List.length_nil, List.map_append, List.map_cons, List.map_nil, go_sem, seval, reduceCtorEq, ↓reduceIte])⟩
    · have hjd : j = d := by omega
      subst hjd
      refine awp_weak (Weak.fz (o := 0) (by rfl)) ?_
      refine awp_sound [] _ _ _ _ ?_
      simp (disch := omega) only [List.map_cons, List.map_nil, List.set_cons_succ, List.set_cons_zero, go_sem, seval, reduceCtorEq, ↓reduceIte]
      rw [sumL, ← ho]
      exact ⟨_, _, Weak.mk (by simp (disch := omega) only [go_sem, seval, reduceCtorEq, ↓reduceIte]), rfl, rfl⟩
theorem fits06_c (a b : List Int) (c d : Bool) (ha : a.length ≤ 1048576) (hb : b.length ≤ 1048576) : ACalls Tryz.prog 51 [.p (.list c (a.map eI)), .p (.list d (b.map eI))] [] fun x H' => x = .p (.bool (fitsB a b)) ∧ H' = [] := by
  refine acalls_pure (fn := Tryz.f51) Tryz.func51 rfl isF51 ?_
  simp (disch := omega) only [Tryz.f51, go_sem, seval, reduceCtorEq, ↓reduceIte]
  refine acond_b (fun h1 => ?_) (fun h1 => ?_) <;> (try simp only [decide_eq_true_eq, decide_eq_false_iff_not] at h1) <;> simp (disch := omega) only [Sh.out h1, go_sem, seval, reduceCtorEq, ↓reduceIte]
  · have : ¬ a.length = b.length := by omega
    simp [fitsB, this]
  · have h1' : a.length = b.length := by omega
    refine awp_for [0, 1] (fun k : Nat => [(5, .p (.int .i64 k))]) (fun _ => []) (fun k => k ≤ a.length ∧ ∀ j, j < k → nth a j ≤ nth b j) (fun k => a.length - k) 0 (by simp) (Weak.mk ?_) ?_
    · simp (disch := omega) only [go_sem, seval, reduceCtorEq, ↓reduceIte]
    · rintro k ⟨hk, hno⟩
      simp (disch := omega) only [go_sem, seval, reduceCtorEq, ↓reduceIte]
      refine acond_b (fun h2 => ?_) (fun h2 => ?_) <;> (try simp only [decide_eq_true_eq, decide_eq_false_iff_not] at h2) <;> simp (disch := omega) only [Sh.out h2, go_sem, seval, reduceCtorEq, ↓reduceIte]
      · have hk2 : k < a.length := by omega
        refine awp_drawnA mixed (by kernel_rfl) (by kernel_rfl) ?_
        simp (disch := omega) only [go_sem, seval, reduceCtorEq, ↓reduceIte]
        refine acond_b (fun h3 => ?_) (fun h3 => ?_) <;> (try simp only [decide_eq_true_eq, decide_eq_false_iff_not] at h3) <;> simp (disch := omega) only [Sh.out h3, go_sem, seval, reduceCtorEq, ↓reduceIte]
        · have : fitsB a b = false := by
            cases hf : fitsB a b with
            | false => rfl
            | true => simp [fitsB, List.all_eq_true] at hf; have := hf.2 k hk2; omega
          rw [this]
        · exact ⟨k + 1, ⟨by omega, upto_iff.2 ⟨hno, by omega⟩⟩, by omega, Weak.mk (by simp (disch := omega) only [go_sem, seval, reduceCtorEq, ↓reduceIte])⟩
      · have hkl : k = a.length := by omega
        subst hkl
        have : fitsB a b = true := by
          simp only [fitsB, Bool.and_eq_true, decide_eq_true_eq, List.all_eq_true, List.mem_range]
          exact ⟨h1', fun i hi => hno i hi⟩
        rw [this]
theorem dims17_c (x : Inst) (ht : x.types.length ≤ 1048576) : ACalls Tryz.prog 90 [.p (eInst x)] [] fun y H' => y = .p (.int .i64 (dimsOf x.types)) ∧ H' = [] := by
  refine acalls_pure (fn := Tryz.f90) Tryz.func90 rfl isF90 ?_
  simp (disch := omega) only [Tryz.f90, go_sem, seval, reduceCtorEq, ↓reduceIte]
  refine acond_b (fun h1 => ?_) (fun h1 => ?_) <;> (try simp only [decide_eq_true_eq, decide_eq_false_iff_not] at h1) <;> simp (disch := omega) only [Sh.out h1, go_sem, seval, reduceCtorEq, ↓reduceIte]
  · have : x.types.length = 0 := by omega
    simp [dimsOf, this]
  · have h2 : ¬ x.types.length = 0 := by omega
    simp only [dimsOf, h2, if_false]
end Go.Proofs.YtccjopdlbolnhaaGreat.K
set_option linter.unusedVariables false
set_option linter.unusedSimpArgs false
namespace Go.Proofs.YtccjopdlbolnhaaGreat.K
open Go Go.AM Go.Proofs
set_option maxRecDepth 8000
set_option maxHeartbeats 8000000
/-- what of a right instance the loads need -/
structure LdOk (x : Inst) : Prop where
  ord : x.orders.length ≤ 10
  typ : x.types.length ≤ 1048576
  dim : 1 ≤ dimsOf x.types ∧ dimsOf x.types ≤ 3
  load : ∀ o ∈ x.orders, (o.load.length : Int) = dimsOf x.types ∧ ∀ n ∈ o.load, 0 ≤ n ∧ n ≤ 1000
theorem ldOk_of {x : Inst} (h : InstOk x) : LdOk x := by
  have ht := h.types.1
  simp only [rng, decide_eq_true_eq] at ht
  have ho := h.orders
  have h0 : 0 < x.types.length := by omega
  have hcap := h.types.2 0 h0
  unfold typOk at hcap
  obtain ⟨⟨⟨⟨⟨⟨⟨⟨_, _⟩, _⟩, _⟩, hcap⟩, _⟩, _⟩, _⟩, _⟩ := hcap
  simp only [capOk, Bool.and_eq_true, decide_eq_true_eq, rng] at hcap
  refine ⟨ho.1, by omega, by omega, fun o hm => ?_⟩
  obtain ⟨i, hi, rfl⟩ := List.mem_iff_getElem.1 hm
  have := (ho.2 i hi).load
  rw [nth_get hi] at this
  simp only [loadOk, Bool.and_eq_true, decide_eq_true_eq, List.all_eq_true, rng] at this
  exact ⟨this.1, this.2⟩
def brdL (x : Inst) (l : List Vis) (n k : Nat) : List (Bool × List Int) := ((List.range k).filter fun i => onB x l n i && hasO l i).map fun i => ((nth x.orders i).load_c, (nth x.orders i).load)
theorem brdL_succ {x : Inst} {l : List Vis} {n k : Nat} : brdL x l n (k + 1) = brdL x l n k ++ if (onB x l n k && hasO l k) = true then [((nth x.orders k).load_c, (nth x.orders k).load)] else [] := by
  unfold brdL
  rw [List.range_succ, List.filter_append, List.map_append]
  congr 1
  simp only [List.filter_cons, List.filter_nil]
  split <;> rfl
theorem brdL_len {x : Inst} {l : List Vis} {n : Nat} : ∀ k, (brdL x l n k).length ≤ k := fun k => by
  unfold brdL
  have := List.length_filter_le (fun i => onB x l n i && hasO l i) (List.range k)
  simp only [List.length_map, List.length_range] at this ⊢
  exact this
theorem brdL_ok {x : Inst} {l : List Vis} {n k : Nat} (h : LdOk x) (hk : k ≤ x.orders.length) : ∀ p ∈ brdL x l n k, p.2.length = (dimsOf x.types).toNat ∧ ∀ m ∈ p.2, 0 ≤ m ∧ m ≤ 1000 := fun p hp => by
  obtain ⟨i, hi, rfl⟩ := List.mem_map.1 hp
  have hi2 := List.mem_range.1 (List.mem_filter.1 hi).1
  have := h.load _ (nth_mem (show i < x.orders.length by omega))
  exact ⟨by simp only; omega, this.2⟩
theorem brdL_sum {x : Inst} {l : List Vis} {n : Nat} : sumL (brdL x l n x.orders.length) (dimsOf x.types).toNat = aftF x l n := by
  unfold sumL aftF
  refine List.map_congr_left fun j _ => ?_
  rw [colS, List.take_length, brdL, List.map_map, sumB, ← sum_filter]
  rfl
/-- on board, and there, behind the first k visits, of which n count -/
def onK (x : Inst) (l : List Vis) (n i k : Nat) : Bool := (l.take (min k n)).foldl (fun on v => if v.order = (i : Int) then !v.drp else on) (decide ((nth x.orders i).pick.place < 0))
def hasK (l : List Vis) (i k : Nat) : Bool := (l.take k).any fun v => decide (v.order = (i : Int))
theorem onK_succ {x : Inst} {l : List Vis} {n i k : Nat} (h : k < l.length) : onK x l n i (k + 1) = if (nth l k).order = (i : Int) then (if k < n then !(nth l k).drp else onK x l n i k) else onK x l n i k := by
  unfold onK
  by_cases hn : k < n
  · rw [show min (k + 1) n = min k n + 1 by omega, show min k n = k by omega, List.take_succ_eq_append_getElem h, List.foldl_append, nth_get h]
    simp [hn]
  · rw [show min (k + 1) n = min k n by omega]
    simp [hn]
theorem hasK_succ {l : List Vis} {i k : Nat} (h : k < l.length) : hasK l i (k + 1) = if (nth l k).order = (i : Int) then true else hasK l i k := by
  unfold hasK
  rw [List.take_succ_eq_append_getElem h, List.any_append, nth_get h]
  by_cases hc : (l[k]).order = (i : Int) <;> simp [hc]
theorem onK_all {x : Inst} {l : List Vis} {n i : Nat} (h : n ≤ l.length) : onK x l n i l.length = onB x l n i := by
  unfold onK onB
  rw [show min l.length n = n by omega]
theorem hasK_all {l : List Vis} {i : Nat} : hasK l i l.length = hasO l i := by unfold hasK hasO; rw [List.take_length]
theorem after17_c (x : Inst) (l : List Vis) (c : Bool) (n : Nat) (hx : LdOk x) (hl : l.length ≤ 1048576) (hn : n ≤ l.length) :
    ACalls Tryz.prog 73 [.p (eInst x), .p (.list c (l.map eVis)), .p (.int .i64 (n : Nat))] [] fun y H' => y = .tup [.p (.list false ((aftF x l n).map eI)), .p (.int .i64 0)] ∧ H' = [] := by
  have ho := hx.ord
  refine acalls_weak [15] (fn := Tryz.f73) Tryz.func73 rfl isF73 ?_
  simp (disch := omega) only [Tryz.f73, go_sem, seval, reduceCtorEq, ↓reduceIte]
  refine awp_forC [15] [1, 2, 3] (fun q : Nat × List (Bool × List Int) => [(8, .sl 1 0 q.2.length q.2.length), (9, .p (.int .i64 q.1))]) (fun q => [instO x, .elems 1 (q.2.map eR)]) (fun q => q.1 ≤ x.orders.length ∧ q.2 = brdL x l n q.1) (fun q => x.orders.length - q.1) (0, []) (by simp [brdL]) (Weak.ofNil 8 1 rfl (by simp) (Weak.mk ?_)) ?_
  · simp (disch := omega) only [instO, List.map_nil, List.length_nil, List.cons_append, List.nil_append, go_sem, seval, reduceCtorEq, ↓reduceIte]
  · rintro ⟨i, o⟩ ⟨hi, hob⟩
    simp only at hi hob
    have hol : o.length ≤ i := by rw [hob]; exact brdL_len i
    simp (disch := omega) only [instO, go_sem, seval, reduceCtorEq, ↓reduceIte]
    refine acond_b (fun h1 => ?_) (fun h1 => ?_) <;> (try simp only [decide_eq_true_eq, decide_eq_false_iff_not] at h1) <;> simp (disch := omega) only [Sh.out h1, go_sem, seval, reduceCtorEq, ↓reduceIte]
    · have hi2 : i < x.orders.length := by omega
      refine awp_for [1, 2, 3, 8, 9] (fun k : Nat => [(10, .p (.bool (onK x l n i k))), (11, .p (.bool (hasK l i k))), (12, .p (.int .i64 k))]) (fun _ => [instO x, .elems 1 (o.map eR)]) (fun k => k ≤ l.length) (fun k => l.length - k) 0 (by simp) (Weak.mk ?_) ?_
      · simp (disch := omega) only [instO, onK, hasK, Nat.zero_min, List.take_zero, List.foldl_nil, List.any_nil, go_sem, seval, reduceCtorEq, ↓reduceIte]
      · intro k hk
        simp (disch := omega) only [instO, go_sem, seval, reduceCtorEq, ↓reduceIte]
        refine acond_b (fun h2 => ?_) (fun h2 => ?_) <;> (try simp only [decide_eq_true_eq, decide_eq_false_iff_not] at h2) <;> simp (disch := omega) only [Sh.out h2, go_sem, seval, reduceCtorEq, ↓reduceIte]
        · have hk2 : k < l.length := by omega
          have s1 := onK_succ (x := x) (n := n) (i := i) hk2
          have s2 := hasK_succ (i := i) hk2
          refine acond_b (fun h3 => ?_) (fun h3 => ?_) <;> (try simp only [decide_eq_true_eq, decide_eq_false_iff_not] at h3) <;> simp (disch := omega) only [Sh.out h3, go_sem, seval, reduceCtorEq, ↓reduceIte]
          · rw [if_neg h3] at s1 s2
            exact ⟨k + 1, by omega, by omega, Weak.mk (by simp (disch := omega) only [instO, s1, s2, go_sem, seval, reduceCtorEq, ↓reduceIte])⟩
          · have h3' := Classical.not_not.1 h3
            rw [if_pos h3'] at s1 s2
            refine acond_b (fun h4 => ?_) (fun h4 => ?_) <;> (try simp only [decide_eq_true_eq, decide_eq_false_iff_not] at h4) <;> simp (disch := omega) only [Sh.out h4, go_sem, seval, reduceCtorEq, ↓reduceIte]
            · rw [if_pos (by omega)] at s1
              exact ⟨k + 1, by omega, by omega, Weak.mk (by simp (disch := omega) only [instO, s1, s2, go_sem, seval, reduceCtorEq, ↓reduceIte])⟩
            · rw [if_neg (by omega)] at s1
              exact ⟨k + 1, by omega, by omega, Weak.mk (by simp (disch := omega) only [instO, s1, s2, go_sem, seval, reduceCtorEq, ↓reduceIte])⟩
        · have hkl : k = l.length := by omega
          subst hkl
          have s3 := brdL_succ (x := x) (l := l) (n := n) (k := i)
          rw [onK_all hn, hasK_all]
          refine aguard_t (fun h5 => ?_) (fun h5 => ?_) <;> (try simp only [decide_eq_true_eq, decide_eq_false_iff_not] at h5) <;> simp (disch := omega) only [Sh.out h5, go_sem, seval, reduceCtorEq, ↓reduceIte]
          · refine acond_b (fun h6 => ?_) (fun h6 => ?_) <;> (try simp only [decide_eq_true_eq, decide_eq_false_iff_not] at h6) <;> simp (disch := omega) only [Sh.out h6, go_sem, seval, reduceCtorEq, ↓reduceIte]
            · rw [h5, h6, Bool.and_self, if_pos rfl] at s3
              exact ⟨(i + 1, o ++ [((nth x.orders i).load_c, (nth x.orders i).load)]), ⟨by simp only; omega, by simp only; rw [s3, hob]⟩, by simp only; omega, Weak.mk (by simp (disch := omega) only [instO, List.length_append, List.length_cons, List.length_nil, List.map_append, List.map_cons, List.map_nil, go_sem, seval, reduceCtorEq, ↓reduceIte])⟩
            · rw [h5, h6, Bool.and_false, if_neg (by simp), List.append_nil] at s3
              exact ⟨(i + 1, o), ⟨by simp only; omega, by simp only; rw [s3, hob]⟩, by simp only; omega, Weak.mk (by simp (disch := omega) only [instO, go_sem, seval, reduceCtorEq, ↓reduceIte])⟩
          · have h5' : onB x l n i = false := by simpa using h5
            rw [h5', Bool.false_and, if_neg (by simp), List.append_nil] at s3
            exact ⟨(i + 1, o), ⟨by simp only; omega, by simp only; rw [s3, hob]⟩, by simp only; omega, Weak.mk (by simp (disch := omega) only [instO, go_sem, seval, reduceCtorEq, ↓reduceIte])⟩
    · have hik : i = x.orders.length := by omega
      subst hik
      have hD : dimsOf x.types = ((dimsOf x.types).toNat : Int) := by have := hx.dim; omega
      have hok := brdL_ok (l := l) (n := n) hx (Nat.le_refl _)
      rw [← hob] at hok
      have hs := brdL_sum (x := x) (l := l) (n := n)
      rw [← hob] at hs
      refine awp_weak (Weak.fz (o := 1) (by rfl)) ?_
      refine awp_sound [] _ _ _ _ ?_
      simp (disch := omega) only [List.map_cons, List.map_nil, List.set_cons_succ, List.set_cons_zero, go_sem, seval, reduceCtorEq, ↓reduceIte]
      refine (dims17_c x hx.typ).use ?_
      simp (disch := omega) only [go_sem, seval, reduceCtorEq, ↓reduceIte]
      rw [hD]
      refine useT' (sum06_c o false (dimsOf x.types).toNat (by have := hx.dim; omega) (by omega) hok) ?_
      simp (disch := omega) only [go_sem, seval, reduceCtorEq, ↓reduceIte]
      rw [← hs]
      exact ⟨_, _, Weak.mk (by simp (disch := omega) only [go_sem, seval, reduceCtorEq, ↓reduceIte]), rfl, rfl⟩
/-- a row of loads -/
def eIL (l : List Int) : PV := .list false (l.map eI)
@[go_sem] theorem eIL_eq (l : List Int) : eIL l = .list false (l.map eI) := Eq.trans rfl rfl
@[go_sem] theorem okE_eIL (l : List (List Int)) : okE 1 (l.map eIL) = true := okE_map fun _ => rfl
@[go_sem] theorem allS_eIL (l : List (List Int)) : allS 1 (l.map eIL) = true := allS_map (f := eIL) (S := 1) (fun _ => rfl) l
def lodsF (x : Inst) (l : List Vis) : List (List Int) := (List.range (l.length + 1)).map (aftF x l)
theorem loads17_c (x : Inst) (r : Rte) (hx : InstOk x) (hl : r.visits.length ≤ 1048576) (h0 : seqChk x r.visits = 0) (hchk : ACalls Tryz.prog 26 [.p (eInst x), .p (eRte r)] [] fun y H' => y = .p (.int .i64 (seqChk x r.visits)) ∧ H' = []) :
    ACalls Tryz.prog 50 [.p (eInst x), .p (eRte r)] [] fun y H' => y = .tup [.p (.list false ((lodsF x r.visits).map eIL)), .p (.int .i64 0)] ∧ H' = [] := by
  have hd := ldOk_of hx
  refine acalls_weak [12] (fn := Tryz.f50) Tryz.func50 rfl isF50 ?_
  simp (disch := omega) only [Tryz.f50, go_sem, seval, reduceCtorEq, ↓reduceIte]
  refine (hchk).use ?_
  simp (disch := omega) only [go_sem, seval, reduceCtorEq, ↓reduceIte]
  simp (disch := omega) only [h0, go_sem, seval, reduceCtorEq, ↓reduceIte]
  refine awp_forC [12] [2, 3] (fun q : Nat × List (List Int) => [(7, .sl 2 0 q.2.length q.2.length), (8, .p (.int .i64 q.1))]) (fun q => [instO x, rteO r, .elems 1 (q.2.map eIL)]) (fun q => q.1 ≤ r.visits.length + 1 ∧ q.2 = (List.range q.1).map (aftF x r.visits)) (fun q => r.visits.length + 1 - q.1) (0, []) (by simp) (Weak.ofNil 7 1 rfl (by simp) (Weak.mk ?_)) ?_
  · simp (disch := omega) only [instO, rteO, List.map_nil, List.length_nil, List.cons_append, List.nil_append, go_sem, seval, reduceCtorEq, ↓reduceIte]
  · rintro ⟨k, o⟩ ⟨hk, ho⟩
    simp only at hk ho
    have hol : o.length = k := by rw [ho]; simp
    simp (disch := omega) only [instO, rteO, go_sem, seval, reduceCtorEq, ↓reduceIte]
    refine acond_b (fun h1 => ?_) (fun h1 => ?_) <;> (try simp only [decide_eq_true_eq, decide_eq_false_iff_not] at h1) <;> simp (disch := omega) only [Sh.out h1, go_sem, seval, reduceCtorEq, ↓reduceIte]
    · refine useT' (after17_c x r.visits r.visits_c k hd hl (by omega)) ?_
      simp (disch := omega) only [go_sem, seval, reduceCtorEq, ↓reduceIte]
      exact ⟨(k + 1, o ++ [aftF x r.visits k]), ⟨by simp only; omega, by simp only; rw [ho, List.range_succ, List.map_append]; rfl⟩, by simp only; omega, Weak.mk (by simp (disch := omega) only [instO, rteO, List.length_append, List.length_cons, List.length_nil, List.map_append, List.map_cons, List.map_nil, go_sem, seval, reduceCtorEq, ↓reduceIte])⟩
    · have hkl : k = r.visits.length + 1 := by omega
      subst hkl
      refine awp_weak (Weak.fz (o := 2) (by rfl)) ?_
      refine awp_sound [] _ _ _ _ ?_
      simp (disch := omega) only [List.map_cons, List.map_nil, List.set_cons_succ, List.set_cons_zero, go_sem, seval, reduceCtorEq, ↓reduceIte]
      rw [lodsF, ← ho]
      exact ⟨_, _, Weak.mk (by simp (disch := omega) only [go_sem, seval, reduceCtorEq, ↓reduceIte]), rfl, rfl⟩
theorem fits17_c (x : Inst) (r : Rte) (hx : InstOk x) (hl : r.visits.length ≤ 1048576) (hty : 0 ≤ r.typ ∧ r.typ < (x.types.length : Int)) (h0 : seqChk x r.visits = 0) (hchk : ACalls Tryz.prog 26 [.p (eInst x), .p (eRte r)] [] fun y H' => y = .p (.int .i64 (seqChk x r.visits)) ∧ H' = []) :
    ACalls Tryz.prog 28 [.p (eInst x), .p (eRte r)] [] fun y H' => y = .p (.int .i64 (if loadB x (typR x r).cap r.visits = true then 0 else 17)) ∧ H' = [] := by
  have hd := ldOk_of hx
  have htl := hd.typ
  have hti : r.typ.toNat < x.types.length := by omega
  have hcp : (nth x.types r.typ.toNat).cap.length ≤ 3 := by
    have hcap := hx.types.2 _ hti
    unfold typOk at hcap
    obtain ⟨⟨⟨⟨⟨⟨⟨⟨_, _⟩, _⟩, _⟩, hcap⟩, _⟩, _⟩, _⟩, _⟩ := hcap
    simp only [capOk, Bool.and_eq_true, decide_eq_true_eq, rng] at hcap
    omega
  have hll : (lodsF x r.visits).length = r.visits.length + 1 := by simp [lodsF]
  have hln : ∀ k, k < r.visits.length + 1 → nth (lodsF x r.visits) k = aftF x r.visits k := fun k hk => by
    rw [nth_get (by omega)]; simp [lodsF]
  have hal : ∀ k, (aftF x r.visits k).length ≤ 3 := fun k => by rw [aftF_len]; have := hd.dim; omega
  have cl := loads17_c x r hx hl h0 hchk
  unfold typR
  generalize hL : lodsF x r.visits = L at *
  refine acalls_pure (fn := Tryz.f28) Tryz.func28 rfl isF28 ?_
  have e1 : ¬ r.typ < 0 := by omega
  have e2 : ¬ (x.types.length : Int) ≤ r.typ := by omega
  simp (disch := omega) only [Tryz.f28, e1, e2, go_sem, seval, reduceCtorEq, ↓reduceIte]
  refine useT' cl ?_
  simp (disch := omega) only [go_sem, seval, reduceCtorEq, ↓reduceIte]
  refine awp_for [2, 3, 5] (fun k : Nat => [(7, .p (.int .i64 k))]) (fun _ => [instO x, rteO r]) (fun k => k ≤ r.visits.length + 1 ∧ ∀ j, j < k → fitsB (aftF x r.visits j) (nth x.types r.typ.toNat).cap = true) (fun k => r.visits.length + 1 - k) 0 (by simp) (Weak.mk ?_) ?_
  · simp (disch := omega) only [instO, rteO, go_sem, seval, reduceCtorEq, ↓reduceIte]
  · rintro k ⟨hk, hno⟩
    simp (disch := omega) only [instO, rteO, hll, go_sem, seval, reduceCtorEq, ↓reduceIte]
    refine acond_b (fun h1 => ?_) (fun h1 => ?_) <;> (try simp only [decide_eq_true_eq, decide_eq_false_iff_not] at h1) <;> simp (disch := omega) only [Sh.out h1, go_sem, seval, reduceCtorEq, ↓reduceIte]
    · have hk2 : k < r.visits.length + 1 := by omega
      have hk3 : k < L.length := by omega
      have hk4 := hal k
      refine awp_drawnA mixed (by kernel_rfl) (by kernel_rfl) ?_
      simp (disch := omega) only [hln k hk2, go_sem, seval, reduceCtorEq, ↓reduceIte]
      refine exq_call (fits06_c (aftF x r.visits k) (nth x.types r.typ.toNat).cap false (nth x.types r.typ.toNat).cap_c (by omega) (by omega)) ?_
      simp (disch := omega) only [go_sem, seval, reduceCtorEq, ↓reduceIte]
      refine acond_b (fun h2 => ?_) (fun h2 => ?_) <;> (try simp only [decide_eq_true_eq, decide_eq_false_iff_not] at h2) <;> simp (disch := omega) only [Sh.out h2, go_sem, seval, reduceCtorEq, ↓reduceIte]
      · have h2' : fitsB (aftF x r.visits k) (nth x.types r.typ.toNat).cap = false := by simpa using h2
        have : ¬ loadB x (nth x.types r.typ.toNat).cap r.visits = true := fun h => by
          rw [loadB, List.all_eq_true] at h
          have := h k (List.mem_range.2 hk2)
          rw [h2'] at this; cases this
        rw [if_neg this]
      · exact ⟨k + 1, ⟨by omega, upto_iff.2 ⟨hno, by simpa using h2⟩⟩, by omega, Weak.mk (by simp (disch := omega) only [instO, rteO, go_sem, seval, reduceCtorEq, ↓reduceIte])⟩
    · have : loadB x (nth x.types r.typ.toNat).cap r.visits = true := by
        rw [loadB, List.all_eq_true]
        intro j hj
        exact hno j (by have := List.mem_range.1 hj; omega)
      rw [if_pos this]
end Go.Proofs.YtccjopdlbolnhaaGreat.K
set_option linter.unusedVariables false
set_option linter.unusedSimpArgs false
namespace Go.Proofs.YtccjopdlbolnhaaGreat.K
open Go Go.AM Go.Proofs
set_option maxRecDepth 8000
set_option maxHeartbeats 8000000
def bitI (j : Nat) : Int := if j = 63 then -9223372036854775808 else ((pw j : Nat) : Int)
theorem bitI_pw {j : Nat} (h : j < 63) : bitI j = ((pw j : Nat) : Int) := by rw [bitI, if_neg (by omega)]
theorem pw_big {j : Nat} (h : j ≤ 62) : pw j ≤ 4611686018427387904 := by have := pw_le h; rwa [pw_62] at this
theorem bitI_pos {j : Nat} (h : j ≤ 63) : 0 < bitI j ↔ j < 63 := by
  unfold bitI
  split
  · omega
  · have := pw_pos j; omega
theorem wrapN {S q : Nat} (hS : S < 9223372036854775808) (h : q ≤ S) : IntKind.i64.wrap (q : Int) = (q : Int) := by rw [IntKind.wrap_i64]; omega
theorem quo_pw {P : Program} {t : TypeId} {S j : Nat} (hS : S < 9223372036854775808) : abin P .quo t (.p (.int .i64 (S : Int))) (.p (.int .i64 ((pw j : Nat) : Int))) = some (.int .i64 ((S / pw j : Nat) : Int)) := by
  have hp := pw_pos j
  rw [abin_quo (by omega)]
  have e : (S : Int).tdiv ((pw j : Nat) : Int) = ((S / pw j : Nat) : Int) := by
    rw [Int.tdiv_eq_ediv_of_nonneg (by omega)]; exact (Int.natCast_ediv _ _).symm
  have hle := Nat.div_le_self S (pw j)
  rw [e, wrapN hS hle]
theorem rem_two {P : Program} {t : TypeId} {S : Nat} : abin P .rem t (.p (.int .i64 (S : Int))) (.p (.int .i64 2)) = some (.int .i64 ((S % 2 : Nat) : Int)) := by
  rw [abin_rem (by omega), Int.tmod_eq_emod_of_nonneg (by omega)]
  rfl
theorem quoI {S j : Nat} (hS : S < 9223372036854775808) : (IntKind.i64.wrap ((S : Int) / ((pw j : Nat) : Int))).tmod 2 = ((S / pw j % 2 : Nat) : Int) := by
  have hle := Nat.div_le_self S (pw j)
  rw [← Int.natCast_ediv, wrapN hS hle, Int.tmod_eq_emod_of_nonneg (Int.natCast_nonneg _)]
  rfl
theorem mul_pw {P : Program} {t : TypeId} {j : Nat} (h : j < 63) : abin P .mul t (.p (.int .i64 ((pw j : Nat) : Int))) (.p (.int .i64 2)) = some (.int .i64 (bitI (j + 1))) := by
  rw [abin_mul]
  congr 2
  have hs := pw_succ j
  unfold bitI
  split
  · have hj : j = 62 := by omega
    subst hj
    rw [pw_62]; decide
  · have := pw_big (show j + 1 ≤ 62 by omega)
    have e : ((pw j : Nat) : Int) * 2 = ((pw (j + 1) : Nat) : Int) := by omega
    rw [e]
    exact by rw [IntKind.wrap_i64]; omega
theorem able10_c (t : Typ) (s : Int) (h1 : t.skills < 9223372036854775808) (h2 : s < 9223372036854775808) : ACalls Tryz.prog 27 [.p (eTyp t), .p (.int .i64 s)] [] fun x H' => x = .p (.bool (ableB t s)) ∧ H' = [] := by
  refine acalls_pure (fn := Tryz.f27) Tryz.func27 rfl isF27 ?_
  simp (disch := omega) only [Tryz.f27, go_sem, seval, reduceCtorEq, ↓reduceIte]
  refine aguard_f (fun c1 => ?_) (fun c1 => ?_) <;> (try simp only [decide_eq_true_eq, decide_eq_false_iff_not] at c1) <;> simp (disch := omega) only [Sh.out c1, go_sem, seval, reduceCtorEq, ↓reduceIte]
  · have : ableB t s = false := by
      have : ¬ 0 ≤ t.skills := by omega
      simp [ableB, this]
    rw [this]
  · refine acond_b (fun c2 => ?_) (fun c2 => ?_) <;> (try simp only [decide_eq_true_eq, decide_eq_false_iff_not] at c2) <;> simp (disch := omega) only [Sh.out c2, go_sem, seval, reduceCtorEq, ↓reduceIte]
    · have : ableB t s = false := by
        have : ¬ 0 ≤ s := by omega
        simp [ableB, this]
      rw [this]
    · obtain ⟨M, hM⟩ : ∃ M : Nat, t.skills = (M : Int) := ⟨t.skills.toNat, by omega⟩
      obtain ⟨S, rfl⟩ : ∃ S : Nat, s = (S : Int) := ⟨s.toNat, by omega⟩
      have hMl : M < 9223372036854775808 := by omega
      have hSl : S < 9223372036854775808 := by omega
      have hab : ∀ b : Bool, ((List.range 63).all fun i => !S.testBit i || M.testBit i) = b → ableB t (S : Int) = b := fun b hb => by
        have g1 : 0 ≤ t.skills := by omega
        have g2 : (0 : Int) ≤ (S : Int) := by omega
        simp only [ableB, g1, g2, decide_true, Bool.true_and, hM, Int.toNat_natCast]
        exact hb
      refine awp_for [1, 2] (fun j : Nat => [(5, .p (.int .i64 (bitI j)))]) (fun _ => [typO t]) (fun j => j ≤ 63 ∧ ∀ i, i < j → (!S.testBit i || M.testBit i) = true) (fun j => 63 - j) 0 (by simp) (Weak.mk ?_) ?_
      · simp (disch := omega) only [typO, hM, show bitI 0 = 1 from rfl, go_sem, seval, reduceCtorEq, ↓reduceIte]
      · rintro j ⟨hj, hno⟩
        simp (disch := omega) only [typO, hM, go_sem, seval, reduceCtorEq, ↓reduceIte]
        refine acond_b (fun c3 => ?_) (fun c3 => ?_) <;> (try simp only [decide_eq_true_eq, decide_eq_false_iff_not] at c3) <;> simp (disch := omega) only [Sh.out c3, go_sem, seval, reduceCtorEq, ↓reduceIte]
        · have hj2 : j < 63 := (bitI_pos hj).1 c3
          simp (disch := omega) only [bitI_pw hj2, quo_pw hSl, quo_pw hMl, quoI hSl, quoI hMl, rem_two, mul_pw hj2, bit_eq1, bit_eq0, go_sem, seval, reduceCtorEq, ↓reduceIte]
          refine aguard_t (fun c4 => ?_) (fun c4 => ?_) <;> (try simp only [decide_eq_true_eq, decide_eq_false_iff_not] at c4) <;> simp (disch := omega) only [Sh.out c4, bitI_pw hj2, quo_pw hSl, quo_pw hMl, quoI hSl, quoI hMl, rem_two, mul_pw hj2, bit_eq1, bit_eq0, go_sem, seval, reduceCtorEq, ↓reduceIte]
          · refine acond_b (fun c5 => ?_) (fun c5 => ?_) <;> (try simp only [decide_eq_true_eq, decide_eq_false_iff_not] at c5) <;> simp (disch := omega) only [Sh.out c5, bitI_pw hj2, mul_pw hj2, go_sem, seval, reduceCtorEq, ↓reduceIte]
            · rw [hab false (by rw [List.all_eq_false]; exact ⟨j, List.mem_range.2 hj2, by simp [c4, c5]⟩)]
            · exact ⟨j + 1, ⟨by omega, upto_iff.2 ⟨hno, by simp [c4] at c5 ⊢; exact c5⟩⟩, by omega, Weak.mk (by simp (disch := omega) only [typO, hM, go_sem, seval, reduceCtorEq, ↓reduceIte])⟩
          · exact ⟨j + 1, ⟨by omega, upto_iff.2 ⟨hno, by simp at c4; simp [c4]⟩⟩, by omega, Weak.mk (by simp (disch := omega) only [typO, hM, go_sem, seval, reduceCtorEq, ↓reduceIte])⟩
        · have hj63 : j = 63 := by
            rcases Nat.lt_or_ge j 63 with h | h
            · exact absurd ((bitI_pos hj).2 h) c3
            · omega
          subst hj63
          rw [hab true (by rw [List.all_eq_true]; intro i hi; exact hno i (List.mem_range.1 hi))]
end Go.Proofs.YtccjopdlbolnhaaGreat.K
set_option linter.unusedVariables false
set_option linter.unusedSimpArgs false
namespace Go.Proofs.YtccjopdlbolnhaaGreat.K
open Go Go.AM Go.Proofs
set_option maxRecDepth 8000
set_option maxHeartbeats 8000000
theorem begins20_c (l : List Vis) (c : Bool) (n : Nat) (hn : n < l.length) (hl : l.length ≤ 1048576) : ACalls Tryz.prog 55 [.p (.list c (l.map eVis)), .p (.int .i64 (n : Nat))] [] fun x H' => x = .p (.bool (firstB l n)) ∧ H' = [] := by
  refine acalls_pure (fn := Tryz.f55) Tryz.func55 rfl isF55 ?_
  simp (disch := omega) only [Tryz.f55, go_sem, seval, reduceCtorEq, ↓reduceIte]
  refine awp_for [0, 1] (fun k : Nat => [(5, .p (.int .i64 k))]) (fun _ => []) (fun k => k ≤ n ∧ ∀ j, j < k → (nth l j).order ≠ (nth l n).order) (fun k => n - k) 0 (by simp) (Weak.mk ?_) ?_
  · simp (disch := omega) only [go_sem, seval, reduceCtorEq, ↓reduceIte]
  · rintro k ⟨hk, hno⟩
    simp (disch := omega) only [go_sem, seval, reduceCtorEq, ↓reduceIte]
    refine acond_b (fun h1 => ?_) (fun h1 => ?_) <;> (try simp only [decide_eq_true_eq, decide_eq_false_iff_not] at h1) <;> simp (disch := omega) only [Sh.out h1, go_sem, seval, reduceCtorEq, ↓reduceIte]
    · have hk2 : k < n := by omega
      have hk3 : k < l.length := by omega
      refine awp_drawnA mixed (by kernel_rfl) (by kernel_rfl) ?_
      simp (disch := omega) only [go_sem, seval, reduceCtorEq, ↓reduceIte]
      refine acond_b (fun h2 => ?_) (fun h2 => ?_) <;> (try simp only [decide_eq_true_eq, decide_eq_false_iff_not] at h2) <;> simp (disch := omega) only [Sh.out h2, go_sem, seval, reduceCtorEq, ↓reduceIte]
      · have : firstB l n = false := by
          unfold firstB
          rw [Bool.not_eq_false', List.any_eq_true]
          exact ⟨nth l k, mem_take hk2 hk3, by simpa using h2⟩
        rw [this]
      · exact ⟨k + 1, ⟨by omega, upto_iff.2 ⟨hno, h2⟩⟩, by omega, Weak.mk (by simp (disch := omega) only [go_sem, seval, reduceCtorEq, ↓reduceIte])⟩
    · have hkn : k = n := by omega
      subst hkn
      have : firstB l k = true := by
        unfold firstB
        rw [Bool.not_eq_true', List.any_eq_false]
        intro v hv
        obtain ⟨j, j1, j2, rfl⟩ := take_mem hv
        simpa using hno j j1
      rw [this]
def scoO (c m o w : Int) : AM.Obj := .cells [.p (.int .i64 c), .p (.int .i64 m), .p (.int .i64 o), .p (.int .i64 w)]
theorem chgF_rng {x : Inst} {l : List Vis} {t : Int} : ∀ n : Nat, (0 ≤ (chgF x l t n).1 ∧ (chgF x l t n).1 ≤ n) ∧ (0 ≤ (chgF x l t n).2 ∧ (chgF x l t n).2 ≤ n)
  | 0 => by simp [chgF]
  | n + 1 => by
    have ih := chgF_rng (x := x) (l := l) (t := t) n
    rw [chgF]
    split
    · simp only
      constructor <;> split <;> omega
    · omega
theorem route20_c (x : Inst) (r : Rte) (s : She) (hty : 0 ≤ r.typ ∧ r.typ < (x.types.length : Int)) (ho : x.orders.length ≤ 1048576) (ht : x.types.length ≤ 1048576) (hl : r.visits.length ≤ 1048576) (hv : Inr x r.visits)
    (hc : 0 ≤ (typR x r).fixed ∧ (typR x r).fixed ≤ 100000 ∧ 0 ≤ (typR x r).perMile ∧ (typR x r).perMile ≤ 100 ∧ 0 ≤ (typR x r).perTick ∧ (typR x r).perTick ≤ 100) (ho2 : 0 ≤ (typR x r).opn ∧ (typR x r).opn ≤ 4096)
    (hf : -4096 ≤ s.fin ∧ s.fin ≤ 8192) (hm : 0 ≤ s.miles ∧ s.miles ≤ 1000000) :
    ACalls Tryz.prog 30 [.p (eInst x), .p (eRte r), .p (eShe s)] [] fun y H' => y = .p (eSco (scoF x r s)) ∧ H' = [] := by
  have hti : r.typ.toNat < x.types.length := by omega
  unfold scoF
  have htd : nth x.types r.typ.toNat = typR x r := rfl
  generalize typR x r = t at *
  have e1 : ¬ r.typ < 0 := by omega
  have e2 : ¬ (x.types.length : Int) ≤ r.typ := by omega
  have p1 : 0 ≤ t.perMile * s.miles ∧ t.perMile * s.miles ≤ 100 * 1000000 := ⟨Int.mul_nonneg (by omega) (by omega), Int.mul_le_mul (by omega) (by omega) (by omega) (by omega)⟩
  have hW : -8192 ≤ s.fin - t.opn ∧ s.fin - t.opn ≤ 8192 := by omega
  have p2 : -819200 ≤ t.perTick * (s.fin - t.opn) ∧ t.perTick * (s.fin - t.opn) ≤ 819200 := by
    generalize s.fin - t.opn = w at hW
    have a1 := Int.mul_le_mul_of_nonneg_left hW.2 (show 0 ≤ t.perTick by omega)
    have a2 := Int.mul_le_mul_of_nonneg_left hW.1 (show 0 ≤ t.perTick by omega)
    omega
  have p3 : -128 ≤ (s.fin - t.opn).tdiv 64 ∧ (s.fin - t.opn).tdiv 64 ≤ 128 := by
    generalize s.fin - t.opn = w at hW
    rcases Int.le_total 0 w with h | h
    · rw [Int.tdiv_eq_ediv_of_nonneg h]; omega
    · have : w.tdiv 64 = -((-w) / 64) := by rw [← Int.tdiv_eq_ediv_of_nonneg (by omega), Int.neg_tdiv, Int.neg_neg]
      rw [this]; omega
  have p4 : 0 ≤ (s.fin - t.opn).tdiv 64 * (s.fin - t.opn).tdiv 64 ∧ (s.fin - t.opn).tdiv 64 * (s.fin - t.opn).tdiv 64 ≤ 16384 := by
    generalize (s.fin - t.opn).tdiv 64 = q at p3
    refine ⟨?_, ?_⟩
    · rcases Int.le_total 0 q with h | h
      · exact Int.mul_nonneg h h
      · exact Int.mul_nonneg_of_nonpos_of_nonpos h h
    · rcases Int.le_total 0 q with h | h
      · have := Int.mul_le_mul p3.2 p3.2 h (by omega); omega
      · have h2 : 0 ≤ -q := by omega
        have := Int.mul_le_mul (show -q ≤ 128 by omega) (show -q ≤ 128 by omega) h2 (by omega)
        rw [Int.neg_mul_neg] at this; omega
  refine acalls_pure (fn := Tryz.f30) Tryz.func30 rfl isF30 ?_
  simp (disch := omega) only [Tryz.f30, e1, e2, htd, go_sem, seval, reduceCtorEq, ↓reduceIte]
  refine awp_for [3, 4, 6, 9] (fun k : Nat => [(10, .p (.int .i64 k))]) (fun k => [instO x, rteO r, .cells [.p (.bool s.rest), .p (.int .i64 s.dep), .p (.list s.times_c (s.times.map eTim)), .p (.int .i64 s.fin), .p (.int .i64 s.miles)], scoO 0 0 0 0, typO t, scoO (t.fixed + t.perMile * s.miles + t.perTick * (s.fin - t.opn)) (chgF x r.visits r.typ k).1 (chgF x r.visits r.typ k).2 ((s.fin - t.opn).tdiv 64 * (s.fin - t.opn).tdiv 64)]) (fun k => k ≤ r.visits.length) (fun k => r.visits.length - k) 0 (by simp) (Weak.mk ?_) ?_
  · simp (disch := omega) only [instO, rteO, typO, scoO, chgF, go_sem, seval, reduceCtorEq, ↓reduceIte]
  · intro k hk
    have hch := chgF_rng (x := x) (l := r.visits) (t := r.typ) k
    simp (disch := omega) only [instO, rteO, typO, scoO, go_sem, seval, reduceCtorEq, ↓reduceIte]
    refine acond_b (fun h1 => ?_) (fun h1 => ?_) <;> (try simp only [decide_eq_true_eq, decide_eq_false_iff_not] at h1) <;> simp (disch := omega) only [Sh.out h1, go_sem, seval, reduceCtorEq, ↓reduceIte]
    · have hk2 : k < r.visits.length := by omega
      obtain ⟨v1, v2⟩ := hv _ (nth_mem hk2)
      have e3 : ¬ (nth r.visits k).order < 0 := by omega
      have e4 : ¬ (x.orders.length : Int) ≤ (nth r.visits k).order := by omega
      have v3 : (nth r.visits k).order.toNat < x.orders.length := by omega
      simp (disch := omega) only [e3, e4, go_sem, seval, reduceCtorEq, ↓reduceIte]
      refine (begins20_c r.visits r.visits_c k hk2 hl).use ?_
      simp (disch := omega) only [go_sem, seval, reduceCtorEq, ↓reduceIte]
      have hcs : chgF x r.visits r.typ (k + 1) = _ := chgF.eq_2 x r.visits r.typ k
      refine acond_b (fun h2 => ?_) (fun h2 => ?_) <;> (try simp only [decide_eq_true_eq, decide_eq_false_iff_not] at h2) <;> simp (disch := omega) only [Sh.out h2, go_sem, seval, reduceCtorEq, ↓reduceIte]
      · have h2' : ¬ firstB r.visits k = true := by simpa using h2
        exact ⟨k + 1, by omega, by omega, Weak.mk (by simp (disch := omega) only [instO, rteO, typO, scoO, hcs, if_neg h2', go_sem, seval, reduceCtorEq, ↓reduceIte])⟩
      · have h2' : firstB r.visits k = true := by simpa using h2
        refine awp_drawnA mixed (by kernel_rfl) (by kernel_rfl) ?_
        simp (disch := omega) only [go_sem, seval, reduceCtorEq, ↓reduceIte]
        refine aguard_t (fun h3 => ?_) (fun h3 => ?_) <;> (try simp only [decide_eq_true_eq, decide_eq_false_iff_not] at h3) <;> simp (disch := omega) only [Sh.out h3, go_sem, seval, reduceCtorEq, ↓reduceIte]
        · refine acond_b (fun h4 => ?_) (fun h4 => ?_) <;> (try simp only [decide_eq_true_eq, decide_eq_false_iff_not] at h4) <;> simp (disch := omega) only [Sh.out h4, go_sem, seval, reduceCtorEq, ↓reduceIte]
          · have hn : foreign (nth x.orders (nth r.visits k).order.toNat).now r.typ = true := by simp [foreign, h3, h4]
            refine awp_drawnA mixed (by kernel_rfl) (by kernel_rfl) ?_
            simp (disch := omega) only [go_sem, seval, reduceCtorEq, ↓reduceIte]
            refine aguard_t (fun h5 => ?_) (fun h5 => ?_) <;> (try simp only [decide_eq_true_eq, decide_eq_false_iff_not] at h5) <;> simp (disch := omega) only [Sh.out h5, go_sem, seval, reduceCtorEq, ↓reduceIte]
            · refine acond_b (fun h6 => ?_) (fun h6 => ?_) <;> (try simp only [decide_eq_true_eq, decide_eq_false_iff_not] at h6) <;> simp (disch := omega) only [Sh.out h6, go_sem, seval, reduceCtorEq, ↓reduceIte]
              · have hl2 : foreign (nth x.orders (nth r.visits k).order.toNat).last r.typ = true := by simp [foreign, h5, h6]
                exact ⟨k + 1, by omega, by omega, Weak.mk (by simp (disch := omega) only [instO, rteO, typO, scoO, hcs, if_pos h2', hn, hl2, Int.add_zero, Bool.false_eq_true, go_sem, seval, reduceCtorEq, ↓reduceIte])⟩
              · have hl2 : foreign (nth x.orders (nth r.visits k).order.toNat).last r.typ = false := by simp only [Classical.not_not] at h6; simp [foreign, h6]
                exact ⟨k + 1, by omega, by omega, Weak.mk (by simp (disch := omega) only [instO, rteO, typO, scoO, hcs, if_pos h2', hn, hl2, Int.add_zero, Bool.false_eq_true, go_sem, seval, reduceCtorEq, ↓reduceIte])⟩
            · have hl2 : foreign (nth x.orders (nth r.visits k).order.toNat).last r.typ = false := by simp only [Classical.not_not] at h5; simp [foreign, h5]
              exact ⟨k + 1, by omega, by omega, Weak.mk (by simp (disch := omega) only [instO, rteO, typO, scoO, hcs, if_pos h2', hn, hl2, Int.add_zero, Bool.false_eq_true, go_sem, seval, reduceCtorEq, ↓reduceIte])⟩
          · have hn : foreign (nth x.orders (nth r.visits k).order.toNat).now r.typ = false := by simp only [Classical.not_not] at h4; simp [foreign, h4]
            refine awp_drawnA mixed (by kernel_rfl) (by kernel_rfl) ?_
            simp (disch := omega) only [go_sem, seval, reduceCtorEq, ↓reduceIte]
            refine aguard_t (fun h5 => ?_) (fun h5 => ?_) <;> (try simp only [decide_eq_true_eq, decide_eq_false_iff_not] at h5) <;> simp (disch := omega) only [Sh.out h5, go_sem, seval, reduceCtorEq, ↓reduceIte]
            · refine acond_b (fun h6 => ?_) (fun h6 => ?_) <;> (try simp only [decide_eq_true_eq, decide_eq_false_iff_not] at h6) <;> simp (disch := omega) only [Sh.out h6, go_sem, seval, reduceCtorEq, ↓reduceIte]
              · have hl2 : foreign (nth x.orders (nth r.visits k).order.toNat).last r.typ = true := by simp [foreign, h5, h6]
                exact ⟨k + 1, by omega, by omega, Weak.mk (by simp (disch := omega) only [instO, rteO, typO, scoO, hcs, if_pos h2', hn, hl2, Int.add_zero, Bool.false_eq_true, go_sem, seval, reduceCtorEq, ↓reduceIte])⟩
              · have hl2 : foreign (nth x.orders (nth r.visits k).order.toNat).last r.typ = false := by simp only [Classical.not_not] at h6; simp [foreign, h6]
                exact ⟨k + 1, by omega, by omega, Weak.mk (by simp (disch := omega) only [instO, rteO, typO, scoO, hcs, if_pos h2', hn, hl2, Int.add_zero, Bool.false_eq_true, go_sem, seval, reduceCtorEq, ↓reduceIte])⟩
            · have hl2 : foreign (nth x.orders (nth r.visits k).order.toNat).last r.typ = false := by simp only [Classical.not_not] at h5; simp [foreign, h5]
              exact ⟨k + 1, by omega, by omega, Weak.mk (by simp (disch := omega) only [instO, rteO, typO, scoO, hcs, if_pos h2', hn, hl2, Int.add_zero, Bool.false_eq_true, go_sem, seval, reduceCtorEq, ↓reduceIte])⟩
        · have hn : foreign (nth x.orders (nth r.visits k).order.toNat).now r.typ = false := by simp only [Classical.not_not] at h3; simp [foreign, h3]
          refine awp_drawnA mixed (by kernel_rfl) (by kernel_rfl) ?_
          simp (disch := omega) only [go_sem, seval, reduceCtorEq, ↓reduceIte]
          refine aguard_t (fun h5 => ?_) (fun h5 => ?_) <;> (try simp only [decide_eq_true_eq, decide_eq_false_iff_not] at h5) <;> simp (disch := omega) only [Sh.out h5, go_sem, seval, reduceCtorEq, ↓reduceIte]
          · refine acond_b (fun h6 => ?_) (fun h6 => ?_) <;> (try simp only [decide_eq_true_eq, decide_eq_false_iff_not] at h6) <;> simp (disch := omega) only [Sh.out h6, go_sem, seval, reduceCtorEq, ↓reduceIte]
            · have hl2 : foreign (nth x.orders (nth r.visits k).order.toNat).last r.typ = true := by simp [foreign, h5, h6]
              exact ⟨k + 1, by omega, by omega, Weak.mk (by simp (disch := omega) only [instO, rteO, typO, scoO, hcs, if_pos h2', hn, hl2, Int.add_zero, Bool.false_eq_true, go_sem, seval, reduceCtorEq, ↓reduceIte])⟩
            · have hl2 : foreign (nth x.orders (nth r.visits k).order.toNat).last r.typ = false := by simp only [Classical.not_not] at h6; simp [foreign, h6]
              exact ⟨k + 1, by omega, by omega, Weak.mk (by simp (disch := omega) only [instO, rteO, typO, scoO, hcs, if_pos h2', hn, hl2, Int.add_zero, Bool.false_eq_true, go_sem, seval, reduceCtorEq, ↓reduceIte])⟩
          · have hl2 : foreign (nth x.orders (nth r.visits k).order.toNat).last r.typ = false := by simp only [Classical.not_not] at h5; simp [foreign, h5]
            exact ⟨k + 1, by omega, by omega, Weak.mk (by simp (disch := omega) only [instO, rteO, typO, scoO, hcs, if_pos h2', hn, hl2, Int.add_zero, Bool.false_eq_true, go_sem, seval, reduceCtorEq, ↓reduceIte])⟩
    · have hkl : k = r.visits.length := by omega
      subst hkl
      rfl
end Go.Proofs.YtccjopdlbolnhaaGreat.K
set_option linter.unusedVariables false
set_option linter.unusedSimpArgs false
namespace Go.Proofs.YtccjopdlbolnhaaGreat.K
open Go Go.AM Go.Proofs
set_option maxRecDepth 8000
set_option maxHeartbeats 8000000
theorem SqOk.len {x : Inst} {l : List Vis} (h : SqOk x l) (hn : x.orders.length ≤ 10) : l.length ≤ 20 := by
  have h1 := List.Nodup.length_le_of_subset (l₁ := l) (l₂ := (List.range 10).flatMap fun i : Nat => [(⟨(i : Int), false⟩ : Vis), ⟨(i : Int), true⟩]) h.nd (fun v hv => by
    obtain ⟨v1, v2⟩ := h.inr v hv
    rw [List.mem_flatMap]
    refine ⟨v.order.toNat, List.mem_range.2 (by omega), ?_⟩
    obtain ⟨o, d⟩ := v
    have e : ((o.toNat : Nat) : Int) = o := by simp only at v1; omega
    cases d <;> simp [e])
  have h2 : ((List.range 10).flatMap fun i : Nat => [(⟨(i : Int), false⟩ : Vis), ⟨(i : Int), true⟩]).length = 20 := rfl
  omega
theorem SqOk.vis {x : Inst} {l : List Vis} (h : SqOk x l) {v : Vis} (hv : v ∈ l) : visB x v = true := by
  obtain ⟨v1, v2⟩ := h.inr v hv
  obtain ⟨i, hi⟩ : ∃ i : Nat, v.order = (i : Int) := ⟨v.order.toNat, by omega⟩
  have ho := h.own (i := i) ⟨v, hv, hi⟩
  have hpl : 0 ≤ (stopV x v).place := by
    unfold stopV
    rw [hi, Int.toNat_natCast]
    cases hd : v.drp with
    | true => exact ho.isD (by rw [← hi, ← hd]; exact hv)
    | false => exact ho.isP (by rw [← hi, ← hd]; exact hv)
  simp [visB, inB, v1, v2, hpl]
theorem poss_of {x : Inst} {r : Rte} (h : SqOk x r.visits) (hn : x.orders.length ≤ 10) (ht : 0 ≤ r.typ ∧ r.typ < (x.types.length : Int)) : possB x r = (decide (0 ≤ r.start) && decide (r.start ≤ 4096)) := by
  have h1 : r.visits.all (visB x) = true := List.all_eq_true.2 fun v hv => h.vis hv
  have h2 := h.len hn
  simp [possB, h1, h2, ht.1, ht.2]
theorem netR_of {n : Net} (h : netOk n) : netR n ∧ ∀ a ∈ n.arcs, 0 ≤ a.miles ∧ a.miles ≤ 10000 := by
  obtain ⟨⟨⟨h1, _⟩, h2⟩, h3⟩ := h
  have ha : ∀ a ∈ n.arcs, arcR a ∧ 0 ≤ a.miles ∧ a.miles ≤ 10000 := fun a hm => by
    obtain ⟨i, hi, rfl⟩ := List.mem_iff_getElem.1 hm
    have := h3 i hi
    unfold arcOk at this
    rw [nth_get hi] at this
    obtain ⟨⟨⟨⟨⟨_, g1⟩, _⟩, g2⟩, g3⟩, g4⟩ := this
    refine ⟨⟨g2, g3, fun p hp => ?_⟩, g1.2.2.1, g1.2.2.2.1⟩
    obtain ⟨j, hj, rfl⟩ := List.mem_iff_getElem.1 hp
    have := g4 j hj
    unfold slowOk at this
    rw [nth_get hj] at this
    simp only [tick, rng, decide_eq_true_eq] at this
    exact ⟨this.1.1, this.1.2, this.2.1.1, this.2.1.2⟩
  exact ⟨⟨by omega, by omega, fun a hm => (ha a hm).1⟩, fun a hm => (ha a hm).2⟩
theorem typ_nums {x : Inst} (hx : InstOk x) {i : Nat} (hi : i < x.types.length) : (0 ≤ (nth x.types i).opn ∧ (nth x.types i).opn ≤ (nth x.types i).cls ∧ (nth x.types i).cls ≤ 4096) ∧ (1 ≤ (nth x.types i).drive ∧ (nth x.types i).drive ≤ 4096) ∧ (0 ≤ (nth x.types i).rest ∧ (nth x.types i).rest ≤ 4096) ∧
    (0 ≤ (nth x.types i).fixed ∧ (nth x.types i).fixed ≤ 100000 ∧ 0 ≤ (nth x.types i).perMile ∧ (nth x.types i).perMile ≤ 100 ∧ 0 ≤ (nth x.types i).perTick ∧ (nth x.types i).perTick ≤ 100) ∧ (0 ≤ (nth x.types i).skills ∧ (nth x.types i).skills ≤ 1073741823) := by
  have ht := hx.types.2 i hi
  unfold typOk at ht
  obtain ⟨⟨⟨⟨⟨⟨⟨⟨_, _⟩, _⟩, _⟩, _⟩, h1⟩, h2⟩, h3⟩, h4⟩ := ht
  simp only [rng, decide_eq_true_eq] at h1 h2 h3 h4
  omega
theorem trpOk_of {x : Inst} {r : Rte} (hx : InstOk x) (ht : 0 ≤ r.typ ∧ r.typ < (x.types.length : Int)) (h : SqOk x r.visits) : TrpOk x (typR x r) (stopsF x r.visits) := by
  have hti : r.typ.toNat < x.types.length := by omega
  obtain ⟨t1, t2, t3, _⟩ := typ_nums hx hti
  obtain ⟨n1, n2⟩ := netR_of hx.net
  refine ⟨n1, n2, t1, t2, t3, fun s hs => ?_, by rw [stopsF_len]; exact h.len hx.orders.1⟩
  obtain ⟨v, hv, rfl⟩ := List.mem_map.1 hs
  obtain ⟨v1, v2⟩ := h.inr v hv
  have hi : v.order.toNat < x.orders.length := by omega
  have ho := hx.orders.2 _ hi
  have hvis := h.vis hv
  have hp := ho.pstp
  have hd := ho.dstp
  simp only [stpOk, decide_eq_true_eq] at hp hd
  simp only [visB, Bool.and_eq_true, decide_eq_true_eq] at hvis
  have h3 := hvis.2
  unfold stopV at h3 ⊢
  split
  · rename_i c; rw [if_pos c] at h3; omega
  · rename_i c; rw [if_neg c] at h3; omega
theorem runF_rng {x t sp} (h : TrpOk x t sp) : ∀ (bs : List Bool) (k : Nat) (L : Lab), k + bs.length = sp.length + 1 → LabR k L → (runF x t sp k L bs).2 = 0 → LabR (sp.length + 1) (runF x t sp k L bs).1 ∧ (bs ≠ [] → (runF x t sp k L bs).1.she.fin = (runF x t sp k L bs).1.ready)
  | [], k, L, hk, hl, h0 => by
    simp at hk; subst hk
    exact ⟨hl, fun h => absurd rfl h⟩
  | b :: bs, k, L, hk, hl, h0 => by
    simp at hk
    rw [runF] at h0 ⊢
    split at h0
    · rename_i c
      rw [if_pos c]
      obtain ⟨h1, h2⟩ := runF_rng h bs (k + 1) _ (by omega) (nxtF_ok h (by omega) hl c) h0
      refine ⟨h1, fun _ => ?_⟩
      cases bs with
      | nil =>
        simp at hk
        subst hk
        exact nxtO_fin (x := x) (t := t) (sp := sp) (y := L) (b := b) (by rw [nxtO, if_pos c]; rfl)
      | cons b2 bs => exact h2 (by simp)
    · simp at h0; rename_i c; exact absurd h0 c
theorem best_rng {x t sp} {st : Int} {r : List Bool} (h : TrpOk x t sp) (hs : 0 ≤ st ∧ st ≤ 4096) (hr : r.length ≤ sp.length + 1) (h0 : (bestF x t sp st r).2 = 0) : (0 ≤ (bestF x t sp st r).1.fin ∧ (bestF x t sp st r).1.fin ≤ 8192) ∧ (0 ≤ (bestF x t sp st r).1.miles ∧ (bestF x t sp st r).1.miles ≤ 210000) := by
  have hL0 : LabR 0 (labF t st) := ⟨by have := h.opn; simp only [labF]; omega, by simp [labF], by simp [labF, zShe]⟩
  have hl := h.len
  have key : ∀ bs ∈ restsR r (sp.length + 1), (runF x t sp 0 (labF t st) bs).2 = 0 → (0 ≤ (runF x t sp 0 (labF t st) bs).1.she.fin ∧ (runF x t sp 0 (labF t st) bs).1.she.fin ≤ 8192) ∧ (0 ≤ (runF x t sp 0 (labF t st) bs).1.she.miles ∧ (runF x t sp 0 (labF t st) bs).1.she.miles ≤ 210000) := fun bs hbs he => by
    obtain ⟨q, hq, rfl⟩ := List.mem_map.1 hbs
    have hql := bestF_len.fromB_len _ _ hq
    simp at hql
    have hne : r ++ q ≠ [] := fun e => by
      have h2 : (r ++ q).length = 0 := by rw [e]; rfl
      rw [List.length_append] at h2; omega
    obtain ⟨g1, g2⟩ := runF_rng h (r ++ q) 0 _ (by simp; omega) hL0 he
    rw [g2 hne]
    have := g1.rdy
    have := g1.mil
    omega
  unfold bestF at h0 ⊢
  cases hf : fmL finF none ((restsR r (sp.length + 1)).filterMap (runO (nxtO x t sp) 0 (labF t st))) with
  | some L =>
    simp only
    have := bestF_len.fmL_mem _ _ hf
    obtain ⟨bs, hbs, hrun⟩ := List.mem_filterMap.1 this
    rw [runF_opt] at hrun
    split at hrun
    · rename_i c; simp at hrun; subst hrun; exact key bs hbs c
    · cases hrun
  | none =>
    simp only
    simp [zShe]
theorem best18e_c (x : Inst) (r : Rte) (ho : x.orders.length ≤ 1048576) (ht : x.types.length ≤ 1048576) (hl : r.visits.length ≤ 1048576) (hbad : possB x r = false ∨ r.visits.length + 1 < r.rests.length) :
    ACalls Tryz.prog 29 [.p (eInst x), .p (eRte r)] [] fun y H' => y = .tup [.p (eShe zShe), .p (.int .i64 2)] ∧ H' = [] := by
  refine acalls_weak [] (fn := Tryz.f29) Tryz.func29 rfl isF29 ?_
  simp (disch := omega) only [Tryz.f29, go_sem, seval, reduceCtorEq, ↓reduceIte]
  refine (poss18_c x r ho ht hl).use ?_
  simp (disch := omega) only [go_sem, seval, reduceCtorEq, ↓reduceIte]
  refine aguard_f (fun h1 => ?_) (fun h1 => ?_) <;> (try simp only [decide_eq_true_eq, decide_eq_false_iff_not] at h1) <;> simp (disch := omega) only [Sh.out h1, go_sem, seval, reduceCtorEq, ↓reduceIte]
  · exact ⟨_, _, Weak.mk (by simp (disch := omega) only [zShe, List.map_nil, go_sem, seval, reduceCtorEq, ↓reduceIte]), rfl, rfl⟩
  · have h2 : r.visits.length + 1 < r.rests.length := hbad.resolve_left (by simpa using h1)
    refine acond_b (fun h3 => ?_) (fun h3 => ?_) <;> (try simp only [decide_eq_true_eq, decide_eq_false_iff_not] at h3) <;> simp (disch := omega) only [Sh.out h3, go_sem, seval, reduceCtorEq, ↓reduceIte]
    · exact ⟨_, _, Weak.mk (by simp (disch := omega) only [zShe, List.map_nil, go_sem, seval, reduceCtorEq, ↓reduceIte]), rfl, rfl⟩
    · omega
theorem chk16_c (x : Inst) (r : Rte) (hx : InstOk x) (hl : r.visits.length ≤ 1048576) : ACalls Tryz.prog 26 [.p (eInst x), .p (eRte r)] [] fun y H' => y = .p (.int .i64 (seqChk x r.visits)) ∧ H' = [] := by
  have hf := instFacts hx
  have hr := hx.rules
  obtain ⟨h1, h2⟩ := List.append_eq_nil_iff.1 hr
  have ha : x.apart.length ≤ 1048576 := by
    have h3 := (List.append_eq_nil_iff.1 h1).1
    unfold hdr at h3
    split at h3
    · simp at h3
    · omega
  have hb : x.before.length ≤ 1048576 := by
    have h3 := (List.append_eq_nil_iff.1 h2).1
    unfold hdr at h3
    split at h3
    · simp at h3
    · omega
  have := rcheck16_c x r (by have := hf.len; omega) hl ha hb hf.plc
  rwa [rchk_eq hf] at this
def evalT (x : Inst) (r : Rte) : V := .tup [.p (eShe (evalS x r)), .p (eSco (evalP x r)), .p (.int .i64 (evalE x r))]
theorem evalT_err {x : Inst} {r : Rte} {e : Int} (h : evalE x r = e) (h0 : e ≠ 0) : evalT x r = .tup [.p (eShe zShe), .p (eSco zSco), .p (.int .i64 e)] := by
  unfold evalT evalS evalP
  rw [h, if_neg h0, if_neg h0]
theorem evaluate21_c (x : Inst) (r : Rte) (hx : InstOk x) (hl : r.visits.length ≤ 1048576) (hrl : r.rests.length ≤ 1048576) : ACalls Tryz.prog 9 [.p (eInst x), .p (eRte r)] [] fun y H' => y = evalT x r ∧ H' = [] := by
  have hld := ldOk_of hx
  have htl := hld.typ
  have hol := hld.ord
  have chk := chk16_c x r hx hl
  have htb : x.types.length ≤ 6 := by have := hx.types.1; simp only [rng, decide_eq_true_eq] at this; omega
  refine acalls_weak [] (fn := Tryz.f9) Tryz.func9 rfl isF9 ?_
  simp (disch := omega) only [Tryz.f9, go_sem, seval, reduceCtorEq, ↓reduceIte]
  refine aguard_f (fun h1 => ?_) (fun h1 => ?_) <;> (try simp only [decide_eq_true_eq, decide_eq_false_iff_not] at h1) <;> simp (disch := omega) only [Sh.out h1, go_sem, seval, reduceCtorEq, ↓reduceIte]
  · have e : ruleE x r = 2 := by rw [ruleE, if_pos (by omega)]
    rw [evalT_err (e := 2) (by rw [evalE, e]; rfl) (by omega)]
    exact ⟨_, _, Weak.mk (by simp (disch := omega) only [zShe, zSco, List.map_nil, go_sem, seval, reduceCtorEq, ↓reduceIte]), rfl, rfl⟩
  · refine acond_b (fun h2 => ?_) (fun h2 => ?_) <;> (try simp only [decide_eq_true_eq, decide_eq_false_iff_not] at h2) <;> simp (disch := omega) only [Sh.out h2, go_sem, seval, reduceCtorEq, ↓reduceIte]
    · have e : ruleE x r = 2 := by rw [ruleE, if_pos (by omega)]
      rw [evalT_err (e := 2) (by rw [evalE, e]; rfl) (by omega)]
      exact ⟨_, _, Weak.mk (by simp (disch := omega) only [zShe, zSco, List.map_nil, go_sem, seval, reduceCtorEq, ↓reduceIte]), rfl, rfl⟩
    · have hty : 0 ≤ r.typ ∧ r.typ < (x.types.length : Int) := by omega
      have hti : r.typ.toNat < x.types.length := by omega
      refine (chk).use ?_
      simp (disch := omega) only [go_sem, seval, reduceCtorEq, ↓reduceIte]
      refine acond_b (fun h3 => ?_) (fun h3 => ?_) <;> (try simp only [decide_eq_true_eq, decide_eq_false_iff_not] at h3) <;> simp (disch := omega) only [Sh.out h3, go_sem, seval, reduceCtorEq, ↓reduceIte]
      · have e : ruleE x r = seqChk x r.visits := by rw [ruleE, if_neg (fun h => h hty), if_pos h3]
        rw [evalT_err (e := seqChk x r.visits) (by rw [evalE, e, if_neg h3]) h3]
        exact ⟨_, _, Weak.mk (by simp (disch := omega) only [zShe, zSco, List.map_nil, go_sem, seval, reduceCtorEq, ↓reduceIte]), rfl, rfl⟩
      · have h3' := Classical.not_not.1 h3
        have hsq := sqOk_of h3'
        have hvn : 0 < r.visits.length := by
          have := hsq.ne
          cases hv : r.visits with
          | nil => exact absurd hv this
          | cons a b => simp
        have hok := trpOk_of hx hty hsq
        have hnum := typ_nums hx hti
        have hr0 : ruleE x r = if (r.visits.any fun v => !ableB (typR x r) (nth x.orders v.order.toNat).skills) = true then 18 else if loadB x (typR x r).cap r.visits = false then 17 else if ¬ (0 ≤ r.start ∧ r.start ≤ 4096 ∧ r.rests.length ≤ r.visits.length + 1) then 2 else 0 := by
          rw [ruleE, if_neg (fun h => h hty), if_neg h3]
        have htyp : nth x.types r.typ.toNat = typR x r := rfl
        rw [htyp] at hnum
        have hf17 := fits17_c x r hx hl hty h3' chk
        have hposs := poss_of hsq hol hty
        have hsk : ∀ k, k < r.visits.length → (nth r.visits k).order.toNat < x.orders.length ∧ 0 ≤ (nth x.orders (nth r.visits k).order.toNat).skills ∧ (nth x.orders (nth r.visits k).order.toNat).skills ≤ 1073741823 := fun k hk => by
          obtain ⟨v1, v2⟩ := hsq.inr _ (nth_mem hk)
          have hi : (nth r.visits k).order.toNat < x.orders.length := by omega
          exact ⟨hi, (hx.orders.2 _ hi).skills⟩
        refine awp_for [2, 3, 4, 5] (fun k : Nat => [(8, .p (.int .i64 k))]) (fun _ => [instO x, rteO r, .cells [.p (.bool false), .p (.int .i64 0), .p (.list true []), .p (.int .i64 0), .p (.int .i64 0)], scoO 0 0 0 0])
          (fun k => k ≤ r.visits.length ∧ ∀ j, j < k → ableB (typR x r) (nth x.orders (nth r.visits j).order.toNat).skills = true) (fun k => r.visits.length - k) 0 (by simp) (Weak.mk ?_) ?_
        · simp (disch := omega) only [instO, rteO, scoO, go_sem, seval, reduceCtorEq, ↓reduceIte]
        · rintro k ⟨hk, hno⟩
          simp (disch := omega) only [instO, rteO, scoO, go_sem, seval, reduceCtorEq, ↓reduceIte]
          refine acond_b (fun h4 => ?_) (fun h4 => ?_) <;> (try simp only [decide_eq_true_eq, decide_eq_false_iff_not] at h4) <;> simp (disch := omega) only [Sh.out h4, go_sem, seval, reduceCtorEq, ↓reduceIte]
          · have hk2 : k < r.visits.length := by omega
            obtain ⟨s1, s2, s3⟩ := hsk k hk2
            obtain ⟨v1, v2⟩ := hsq.inr _ (nth_mem hk2)
            refine awp_drawnA mixed (by kernel_rfl) (by kernel_rfl) ?_
            simp (disch := omega) only [htyp, go_sem, seval, reduceCtorEq, ↓reduceIte]
            refine exq_call (able10_c (typR x r) (nth x.orders (nth r.visits k).order.toNat).skills (by omega) (by omega)) ?_
            simp (disch := omega) only [go_sem, seval, reduceCtorEq, ↓reduceIte]
            refine acond_b (fun h5 => ?_) (fun h5 => ?_) <;> (try simp only [decide_eq_true_eq, decide_eq_false_iff_not] at h5) <;> simp (disch := omega) only [Sh.out h5, go_sem, seval, reduceCtorEq, ↓reduceIte]
            · have e : ruleE x r = 18 := by
                rw [hr0, if_pos]
                exact List.any_eq_true.2 ⟨_, nth_mem hk2, h5⟩
              rw [evalT_err (e := 18) (by rw [evalE, e]; rfl) (by omega)]
              exact ⟨_, _, Weak.mk (by simp (disch := omega) only [zShe, zSco, List.map_nil, go_sem, seval, reduceCtorEq, ↓reduceIte]), rfl, rfl⟩
            · exact ⟨k + 1, ⟨by omega, upto_iff.2 ⟨hno, by simpa using h5⟩⟩, by omega, Weak.mk (by simp (disch := omega) only [instO, rteO, scoO, go_sem, seval, reduceCtorEq, ↓reduceIte])⟩
          · have hkl : k = r.visits.length := by omega
            subst hkl
            have hall : ¬ (r.visits.any fun v => !ableB (typR x r) (nth x.orders v.order.toNat).skills) = true := fun h => by
              obtain ⟨v, hv, hb⟩ := List.any_eq_true.1 h
              obtain ⟨j, hj, rfl⟩ := List.mem_iff_getElem.1 hv
              rw [← nth_get hj, hno j hj] at hb; simp at hb
            rw [if_neg hall] at hr0
            refine (hf17).use ?_
            simp (disch := omega) only [go_sem, seval, reduceCtorEq, ↓reduceIte]
            cases hlb : loadB x (typR x r).cap r.visits with
            | false =>
              have e : ruleE x r = 17 := by rw [hr0, hlb]; rfl
              simp only [Bool.false_eq_true, if_false]
              simp (disch := omega) only [go_sem, seval, reduceCtorEq, ↓reduceIte]
              rw [evalT_err (e := 17) (by rw [evalE, e]; rfl) (by omega)]
              exact ⟨_, _, Weak.mk (by simp (disch := omega) only [zShe, zSco, List.map_nil, go_sem, seval, reduceCtorEq, ↓reduceIte]), rfl, rfl⟩
            | true =>
              rw [hlb, if_neg (by simp)] at hr0
              simp only [if_true]
              simp (disch := omega) only [go_sem, seval, reduceCtorEq, ↓reduceIte]
              by_cases h6 : 0 ≤ r.start ∧ r.start ≤ 4096 ∧ r.rests.length ≤ r.visits.length + 1
              · have e : ruleE x r = 0 := by rw [hr0, if_neg (fun h => h h6)]
                have hp : possB x r = true := by rw [hposs]; simp [h6.1, h6.2.1]
                have ee : evalE x r = (bestR x r).2 := by rw [evalE, if_pos e]
                have cb := best18_c x r hok (by omega) htl hvn hp h6.2.2
                have hbr := best_rng hok ⟨h6.1, h6.2.1⟩ (by rw [stopsF_len]; exact h6.2.2)
                have hbr : (bestR x r).2 = 0 → _ := hbr
                change (bestR x r).2 = 0 → (0 ≤ (bestR x r).1.fin ∧ (bestR x r).1.fin ≤ 8192) ∧ (0 ≤ (bestR x r).1.miles ∧ (bestR x r).1.miles ≤ 210000) at hbr
                have es : evalS x r = if (bestR x r).2 = 0 then (bestR x r).1 else zShe := by rw [evalS, ee]
                have ep : evalP x r = if (bestR x r).2 = 0 then scoF x r (bestR x r).1 else zSco := by rw [evalP, ee]
                unfold evalT
                rw [ee, es, ep]
                clear ee es ep
                generalize bestR x r = q at *
                obtain ⟨sh, eb⟩ := q
                simp only at cb hbr ⊢
                refine useT' cb ?_
                simp (disch := omega) only [go_sem, seval, reduceCtorEq, ↓reduceIte]
                refine acond_b (fun h7 => ?_) (fun h7 => ?_) <;> (try simp only [decide_eq_true_eq, decide_eq_false_iff_not] at h7) <;> simp (disch := omega) only [Sh.out h7, go_sem, seval, reduceCtorEq, ↓reduceIte]
                · exact ⟨_, _, Weak.mk (by simp (disch := omega) only [zShe, zSco, List.map_nil, go_sem, seval, reduceCtorEq, ↓reduceIte]), rfl, rfl⟩
                · have h7' := Classical.not_not.1 h7
                  try rw [if_pos h7', if_pos h7']
                  subst h7'
                  obtain ⟨g1, g2⟩ := hbr rfl
                  refine awp_drawnS 5 mixed (by kernel_rfl) (by kernel_rfl) ?_
                  simp (disch := omega) only [go_sem, seval, reduceCtorEq, ↓reduceIte]
                  refine exq_call (route20_c x r sh hty (by omega) htl hl hsq.inr hnum.2.2.2.1 (by omega) (by omega) (by omega)) ?_
                  simp (disch := omega) only [go_sem, seval, reduceCtorEq, ↓reduceIte]
                  exact ⟨_, _, Weak.mk (by simp (disch := omega) only [go_sem, seval, reduceCtorEq, ↓reduceIte]), rfl, rfl⟩
              · have e : ruleE x r = 2 := by rw [hr0, if_pos h6]
                rw [evalT_err (e := 2) (by rw [evalE, e]; rfl) (by omega)]
                refine useT' (best18e_c x r (by omega) htl hl ?_) ?_
                · by_cases c1 : 0 ≤ r.start
                  · by_cases c2 : r.start ≤ 4096
                    · right; omega
                    · left; rw [hposs]; simp [c2]
                  · left; rw [hposs]; simp [c1]
                · simp (disch := omega) only [go_sem, seval, reduceCtorEq, ↓reduceIte]
                  exact ⟨_, _, Weak.mk (by simp (disch := omega) only [zShe, zSco, List.map_nil, go_sem, seval, reduceCtorEq, ↓reduceIte]), rfl, rfl⟩
theorem valid21_c (x : Inst) (r : Rte) (hx : InstOk x) (hl : r.visits.length ≤ 1048576) (hrl : r.rests.length ≤ 1048576) : ACalls Tryz.prog 5 [.p (eInst x), .p (eRte r)] [] fun y H' => y = .p (.int .i64 (evalE x r)) ∧ H' = [] := by
  have ce := evaluate21_c x r hx hl hrl
  refine acalls_pure (fn := Tryz.f5) Tryz.func5 rfl isF5 ?_
  simp (disch := omega) only [Tryz.f5, go_sem, seval, reduceCtorEq, ↓reduceIte]
  unfold evalT at ce
  refine useT3 ce ?_
  simp (disch := omega) only [go_sem, seval, reduceCtorEq, ↓reduceIte]
end Go.Proofs.YtccjopdlbolnhaaGreat.K
